import PyProof.Rows.All
import Wide.All
import OpenK.AllK
import Wide.FinOn
import HandS.ForMost
import HandS.ForExc
import KE.KDictKeyed
import HandS.CallSlots
import HandS.Wide
import HandS.WideBits
import HandS.TupAny
import HandS.Deep
import HandS.IsInst
import HandS.StrMore
import HandS.Zip
import HandS.Rev
import HandS.RevTup
import HandS.More
import HandS.SetFor
import HandS.SortInts
import HandS.Conv
import HandS.EndBits
import HandS.Defaults
import HandS.Dict
import HandS.ExcOwn
import HandS.ExcIs
import HandS.HotCalls
import HandS.TryElse
import HandS.Text
import KE.IntTextText
import PySem.Challenge.RW_samewise_k07_whole_any_text
set_option Elab.async false
section
set_option linter.all false
set_option maxRecDepth 100000
namespace FL
open PySem PySem.Spec PyProof.Rows L2

/-! ## values, stores -/
structure Ca where
  /-- the classes and defs by their names -/
  f : String → Addr
  /-- the world -/
  w : World
  /-- the exception that is handled: where it stands, its class -/
  ex : Option (Addr × String)
instance : CoeFun Ca (fun _ => String → Addr) := ⟨Ca.f⟩
inductive PV where
  | exc (c : String)
  | non | bl (b : Bool) | int (i : Int) | str (x : Str) | ty (n : String) | cls (n : String)
  | ref (n : Nat) | tup (xs : List PV) | frz (xs : List PV)
structure Ex where
  c : String
  val : Option (Str × PV)
inductive PO where
  | lst (xs : List PV) | dK (kvs : List (Key × PV)) | dN (kvs : List (NestedKey × PV)) | ins (c : String) (fs : List (Str × PV))
abbrev Store := List PO
abbrev Env := List (Option PV)
inductive R (α : Type) where
  | ok (a : α) (st : Store) | er (x : Ex) (st : Store) | no
def R.bind {α β : Type} (r : R α) (g : α → Store → R β) : R β :=
  match r with
  | .ok a s => g a s
  | .er x s => .er x s
  | .no => .no
/-- what a value-level deed gives -/
abbrev O (α : Type) := Option (α × Store)
def R.of {α : Type} : O α → R α
  | some (a, s) => .ok a s
  | none => .no
inductive RS where
  | nx (e : Env) (st : Store) | rt (v : PV) (st : Store) | bk (e : Env) (st : Store) | ct (e : Env) (st : Store) | er (x : Ex) (e : Env) (st : Store) | no
abbrev FE := Env → Store → R PV
abbrev FT := Env → Store → R Bool
abbrev FA := Env → Store → R (List PV)
abbrev FS := Env → Store → RS
abbrev Fn := List PV → Store → R PV

/-! ## the relation -/
def RoL (K : PySem.W.Frag) (H : Hp) (a : Addr) (xs : List V) : Prop :=
  (∃ o, H a = some (.frz o (.lst xs))) ∨
    ∃ (o : Obj) (its : Array Value) (n : Nat), K.lookup a = some o ∧ o.cls = .type "list" ∧ o.dict = none ∧ o.data = .seq its n ∧ its.size ≤ sizeLine ∧ Vals xs its.toList
theorem RoL.sq {K : PySem.W.Frag} {H : Hp} {a : Addr} {xs : List V} (h : RoL K H a xs) : SqL K H a xs := by
  rcases h with ⟨o, h⟩ | h
  · exact .inl (.inr ⟨o, h⟩)
  · exact .inr h

mutual
inductive VR (K : PySem.W.Frag) (ca : Ca) (H : Hp) (m : List Addr) : PV → V → Prop
  | non : VR K ca H m .non .non
  | bl (b : Bool) : VR K ca H m (.bl b) (.bl b)
  | int (i : Int) : VR K ca H m (.int i) (.int i)
  | str (x : Str) : VR K ca H m (.str x) (.str x)
  | ty (n : String) : VR K ca H m (.ty n) (.ty n)
  | cls (n : String) : VR K ca H m (.cls n) (.ref (ca n))
  | exc {c : String} {a : Addr} (h : ca.ex = some (a, c)) : VR K ca H m (.exc c) (.ref a)
  | ref {n : Nat} {a : Addr} (h : m[n]? = some a) : VR K ca H m (.ref n) (.ref a)
  | tup {xs : List PV} {a : Addr} {vs : List V} (h : SqT K H a vs) (r : VRs K ca H m xs vs) : VR K ca H m (.tup xs) (.ref a)
  | frz {xs : List PV} {a : Addr} {vs : List V} (h : RoL K H a vs) (r : VRs K ca H m xs vs) : VR K ca H m (.frz xs) (.ref a)
inductive VRs (K : PySem.W.Frag) (ca : Ca) (H : Hp) (m : List Addr) : List PV → List V → Prop
  | nil : VRs K ca H m [] []
  | cons {x : PV} {v : V} {xs : List PV} {vs : List V} (h : VR K ca H m x v) (r : VRs K ca H m xs vs) : VRs K ca H m (x :: xs) (v :: vs)
end
structure Keep (K : PySem.W.Frag) (H H' : Hp) : Prop where
  t : ∀ a xs, SqT K H a xs → SqT K H' a xs
  f : ∀ a xs, RoL K H a xs → RoL K H' a xs
section
variable {K : PySem.W.Frag} {ca : Ca} {H H' H'' : Hp} {m m' m'' : List Addr}
theorem Keep.refl : Keep K H H := ⟨fun _ _ h => h, fun _ _ h => h⟩
theorem Keep.trans (a : Keep K H H') (b : Keep K H' H'') : Keep K H H'' := ⟨fun x y h => b.t x y (a.t x y h), fun x y h => b.f x y (a.f x y h)⟩
theorem pre_get {i : Nat} {a : Addr} (p : m <+: m') (h : m[i]? = some a) : m'[i]? = some a := by
  obtain ⟨l, rfl⟩ := p
  have hi : i < m.length := (List.getElem?_eq_some_iff.mp h).1
  rw [List.getElem?_append_left hi]
  exact h
mutual
theorem VR.mono (p : m <+: m') (k : Keep K H H') : ∀ {x : PV} {v : V}, VR K ca H m x v → VR K ca H' m' x v
  | _, _, .non => .non
  | _, _, .bl b => .bl b
  | _, _, .int i => .int i
  | _, _, .str x => .str x
  | _, _, .ty n => .ty n
  | _, _, .cls n => .cls n
  | _, _, .exc h => .exc h
  | _, _, .ref h => .ref (pre_get p h)
  | _, _, .tup h r => .tup (k.t _ _ h) (VRs.mono p k r)
  | _, _, .frz h r => .frz (k.f _ _ h) (VRs.mono p k r)
theorem VRs.mono (p : m <+: m') (k : Keep K H H') : ∀ {xs : List PV} {vs : List V}, VRs K ca H m xs vs → VRs K ca H' m' xs vs
  | _, _, .nil => .nil
  | _, _, .cons h r => .cons (VR.mono p k h) (VRs.mono p k r)
end
theorem VRs.length : ∀ {xs : List PV} {vs : List V}, VRs K ca H m xs vs → xs.length = vs.length
  | _, _, .nil => rfl
  | _, _, .cons _ r => by rw [List.length_cons, List.length_cons, VRs.length r]
theorem VRs.get : ∀ {xs : List PV} {vs : List V} {i : Nat} {x : PV}, VRs K ca H m xs vs → xs[i]? = some x → ∃ v, vs[i]? = some v ∧ VR K ca H m x v
  | _, _, _, _, .nil, e => by simp at e
  | _, _, 0, _, .cons h _, e => by simp at e; subst e; exact ⟨_, rfl, h⟩
  | _, _, i + 1, x, .cons _ r, e => by
    obtain ⟨v, h1, h2⟩ := VRs.get (i := i) (x := x) r (by simpa using e)
    exact ⟨v, by simpa using h1, h2⟩
theorem VRs.get' : ∀ {xs : List PV} {vs : List V} {i : Nat} {v : V}, VRs K ca H m xs vs → vs[i]? = some v → ∃ x, xs[i]? = some x ∧ VR K ca H m x v
  | _, _, _, _, .nil, e => by simp at e
  | _, _, 0, _, .cons h _, e => by simp at e; subst e; exact ⟨_, rfl, h⟩
  | _, _, i + 1, v, .cons _ r, e => by
    obtain ⟨x, h1, h2⟩ := VRs.get' (i := i) (v := v) r (by simpa using e)
    exact ⟨x, by simpa using h1, h2⟩
theorem VRs.append : ∀ {xs ys : List PV} {vs ws : List V}, VRs K ca H m xs vs → VRs K ca H m ys ws → VRs K ca H m (xs ++ ys) (vs ++ ws)
  | _, _, _, _, .nil, s => s
  | _, _, _, _, .cons h r, s => .cons h (VRs.append r s)
theorem VRs.take : ∀ {xs : List PV} {vs : List V} (n : Nat), VRs K ca H m xs vs → VRs K ca H m (xs.take n) (vs.take n)
  | _, _, 0, _ => .nil
  | _, _, _ + 1, .nil => .nil
  | _, _, n + 1, .cons h r => .cons h (VRs.take n r)
theorem VRs.drop : ∀ {xs : List PV} {vs : List V} (n : Nat), VRs K ca H m xs vs → VRs K ca H m (xs.drop n) (vs.drop n)
  | _, _, 0, r => r
  | _, _, _ + 1, .nil => .nil
  | _, _, n + 1, .cons _ r => VRs.drop n r
theorem VRs.set {x : PV} {v : V} (h : VR K ca H m x v) : ∀ {xs : List PV} {vs : List V} (i : Nat), VRs K ca H m xs vs → VRs K ca H m (xs.set i x) (vs.set i v)
  | _, _, _, .nil => .nil
  | _, _, 0, .cons _ t => .cons h t
  | _, _, i + 1, .cons q t => .cons q (VRs.set h i t)
theorem VRs.rev {xs : List PV} {vs : List V} (h : VRs K ca H m xs vs) : VRs K ca H m xs.reverse vs.reverse := by
  induction xs generalizing vs with
  | nil => cases h; exact .nil
  | cons x xs ih =>
    cases h with
    | cons h r =>
      rw [List.reverse_cons, List.reverse_cons]
      exact (ih r).append (.cons h .nil)
theorem VRs.ints : ∀ (ns : List Int), VRs K ca H m (ns.map PV.int) (ns.map V.int)
  | [] => .nil
  | n :: r => .cons (.int n) (VRs.ints r)

/-- a key of nested tuples, as a value -/
inductive NkV (K : PySem.W.Frag) (H : Hp) : NestedKey → V → Prop
  | non : NkV K H .none .non
  | int (i : Int) : NkV K H (.num i) (.int i)
  | str (x : Str) : NkV K H (.text x) (.str x)
  | tup {ks : List NestedKey} {a : Addr} {vs : List V} (h : SqT K H a vs) (n : ks.length = vs.length) (r : ∀ (i : Nat) k v, ks[i]? = some k → vs[i]? = some v → NkV K H k v) : NkV K H (.tup ks) (.ref a)
theorem NkV.mono (k : Keep K H H') {x : NestedKey} {v : V} (h : NkV K H x v) : NkV K H' x v := by
  induction h with
  | non => exact .non
  | int i => exact .int i
  | str x => exact .str x
  | tup h n r ih => exact .tup (k.t _ _ h) n ih
/-- what the one object of such a dict holds -/
def DnOk (w : World) (a : Addr) (xs : List (NestedKey × Addr × V)) (h : Heap) : Prop := xs.length ≤ sizeLine ∧ (a == sysModules) = false ∧
  ∃ ys : List (NestedKey × Addr × Value), Paired (fun (p : NestedKey × Addr × V) (q : NestedKey × Addr × Value) => p.1 = q.1 ∧ p.2.1 = q.2.1 ∧ RelV p.2.2 q.2.2) xs ys ∧
    ∃ o es ep, h.get? a = some o ∧ o.ExactDict ∧ o.data = .dict es ep ∧ es.toList = ys.map (fun x => (⟨x.1.hash w, .ref x.2.1, x.2.2⟩ : DictEntry)) ∧ (ys.map (·.1)).Nodup
def DR (K : PySem.W.Frag) (ca : Ca) (H : Hp) (m : List Addr) : List (NestedKey × PV) → List (NestedKey × Addr × V) → Prop := Paired fun p q => p.1 = q.1 ∧ (NkV K H p.1 (.ref q.2.1) ∧ p.1.depth ≤ 8) ∧ VR K ca H m p.2 q.2.2
theorem DR.mono (p : m <+: m') (k : Keep K H H') {a : List (NestedKey × PV)} {b : List (NestedKey × Addr × V)} (h : DR K ca H m a b) : DR K ca H' m' a b := Paired.mapP h fun _ _ q => ⟨q.1, ⟨q.2.1.1.mono k, q.2.1.2⟩, q.2.2.mono p k⟩
/-- pairs with one key -/
def KR {κ : Type} (K : PySem.W.Frag) (ca : Ca) (H : Hp) (m : List Addr) : List (κ × PV) → List (κ × V) → Prop := Paired fun p q => p.1 = q.1 ∧ VR K ca H m p.2 q.2
theorem KR.mono {κ : Type} (p : m <+: m') (k : Keep K H H') {a : List (κ × PV)} {b : List (κ × V)} (h : KR K ca H m a b) : KR K ca H' m' a b := Paired.mapP h fun _ _ q => ⟨q.1, q.2.mono p k⟩
/-- what stands at a place of the store -/
def OR (K : PySem.W.Frag) (ca : Ca) (H : Hp) (m : List Addr) (a : Addr) : PO → Prop
  | .lst xs => ∃ vs, H a = some (.lst vs) ∧ VRs K ca H m xs vs
  | .dK kvs => ∃ ws, H a = some (.dK ws) ∧ KR K ca H m kvs ws
  | .dN kvs => ∃ xs, H a = some (.ext (DnOk ca.w a xs)) ∧ DR K ca H m kvs xs
  | .ins c fs => ∃ dx gs, H a = some (.ins (ca c) dx gs) ∧ KR K ca H m fs gs
structure SR (K : PySem.W.Frag) (ca : Ca) (H : Hp) (m : List Addr) (st : Store) : Prop where
  len : m.length = st.length
  nd : m.Nodup
  ob : ∀ (n : Nat) (a : Addr) (o : PO), m[n]? = some a → st[n]? = some o → OR K ca H m a o
def ER (K : PySem.W.Frag) (ca : Ca) (H : Hp) (m : List Addr) (e : Env) (σ : L2.St) : Prop :=
  e.length = σ.length ∧ ∀ (i : Nat) v, e[i]? = some (some v) → ∃ w, σ[i]? = some (some w) ∧ VR K ca H m v w
theorem ER.mono {e : Env} {σ : L2.St} (h : ER K ca H m e σ) (p : m <+: m') (k : Keep K H H') : ER K ca H' m' e σ :=
  ⟨h.1, fun i v q => let ⟨w, a, b⟩ := h.2 i v q; ⟨w, a, b.mono p k⟩⟩
theorem OR.some {a : Addr} {o : PO} (h : OR K ca H m a o) : ∃ u, H a = Option.some u ∧ (∀ xs, u ≠ .tup xs) ∧ (∀ o' w, u ≠ .frz o' w) := by
  cases o with
  | lst xs => obtain ⟨vs, e, _⟩ := h; exact ⟨_, e, (fun _ z => nomatch z), (fun _ _ z => nomatch z)⟩
  | dK kvs => obtain ⟨vs, e, _⟩ := h; exact ⟨_, e, (fun _ z => nomatch z), (fun _ _ z => nomatch z)⟩
  | dN kvs => obtain ⟨vs, e, _⟩ := h; exact ⟨_, e, (fun _ z => nomatch z), (fun _ _ z => nomatch z)⟩
  | ins c fs => obtain ⟨dx, vs, e, _⟩ := h; exact ⟨_, e, (fun _ z => nomatch z), (fun _ _ z => nomatch z)⟩
/-- what stands stays where its own cell, the tuples and the map stay -/
theorem OR.mono {a : Addr} {o : PO} (h : OR K ca H m a o) (p : m <+: m') (k : Keep K H H') (e : H' a = H a) : OR K ca H' m' a o := by
  cases o with
  | lst xs => obtain ⟨vs, q, r⟩ := h; exact ⟨vs, by rw [e]; exact q, r.mono p k⟩
  | dK kvs => obtain ⟨vs, q, r⟩ := h; exact ⟨vs, by rw [e]; exact q, r.mono p k⟩
  | dN kvs => obtain ⟨vs, q, r⟩ := h; exact ⟨vs, by rw [e]; exact q, r.mono p k⟩
  | ins c fs => obtain ⟨dx, vs, q, r⟩ := h; exact ⟨dx, vs, by rw [e]; exact q, r.mono p k⟩
/-- a new object that is no matter to the store -/
theorem Keep.new {p : Addr} {o : HO} (h : H p = none) : Keep K H (upd H p o) where
  t := fun a xs q => by
    rcases q with (q | ⟨ob, q⟩) | q
    · exact .inl (.inl (by rw [upd_ne (ne_of_none q h)]; exact q))
    · exact .inl (.inr ⟨ob, by rw [upd_ne (ne_of_none q h)]; exact q⟩)
    · exact .inr q
  f := fun a xs q => by
    rcases q with ⟨ob, q⟩ | q
    · exact .inl ⟨ob, by rw [upd_ne (ne_of_none q h)]; exact q⟩
    · exact .inr q
/-- an object of the store is changed -/
theorem Keep.upd {p : Addr} {o u : HO} (h : H p = some u) (h1 : ∀ xs, u ≠ .tup xs) (h2 : ∀ o' w, u ≠ .frz o' w) : Keep K H (upd H p o) where
  t := fun a xs q => by
    rcases q with (q | ⟨ob, q⟩) | q
    · exact .inl (.inl (by rw [upd_ne (ne_of q h fun z => h1 _ z.symm)]; exact q))
    · exact .inl (.inr ⟨ob, by rw [upd_ne (ne_of q h fun z => h2 _ _ z.symm)]; exact q⟩)
    · exact .inr q
  f := fun a xs q => by
    rcases q with ⟨ob, q⟩ | q
    · exact .inl ⟨ob, by rw [upd_ne (ne_of q h fun z => h2 _ _ z.symm)]; exact q⟩
    · exact .inr q
section
variable {st : Store}
theorem SR.get (s : SR K ca H m st) {n : Nat} {o : PO} (h : st[n]? = some o) : ∃ a, m[n]? = some a ∧ OR K ca H m a o := by
  have hn : n < m.length := by rw [s.len]; exact (List.getElem?_eq_some_iff.mp h).1
  exact ⟨m[n], List.getElem?_eq_getElem hn, s.ob n _ o (List.getElem?_eq_getElem hn) h⟩
theorem SR.at (s : SR K ca H m st) {n : Nat} {a : Addr} {o : PO} (h : st[n]? = some o) (ha : m[n]? = some a) : OR K ca H m a o := s.ob n a o ha h
theorem SR.ne_new (s : SR K ca H m st) {p : Addr} (h : H p = none) : p ∉ m := fun hm => by
  obtain ⟨i, hi, e⟩ := List.getElem_of_mem hm
  have hi' : i < st.length := by rw [← s.len]; exact hi
  obtain ⟨u, q, _⟩ := (s.ob i _ _ (List.getElem?_eq_getElem hi) (List.getElem?_eq_getElem hi')).some
  rw [e, h] at q
  cases q
/-- a new object that the store does not hold -/
theorem SR.skip (s : SR K ca H m st) {p : Addr} {o : HO} (h : H p = none) : SR K ca (upd H p o) m st :=
  ⟨s.len, s.nd, fun n a ob ha ho => (s.ob n a ob ha ho).mono (List.prefix_refl _) (Keep.new h) (upd_ne fun z => s.ne_new h (z ▸ List.mem_of_getElem? ha))⟩
/-- a new object that the store holds -/
theorem SR.new (s : SR K ca H m st) {p : Addr} {o : HO} {ob : PO} (h : H p = none) (r : OR K ca (L2.upd H p o) (m ++ [p]) p ob) : SR K ca (L2.upd H p o) (m ++ [p]) (st ++ [ob]) := by
  refine ⟨by rw [List.length_append, List.length_append, s.len] <;> rfl, ?_, fun n a u ha hu => ?_⟩
  · rw [List.nodup_append]
    refine ⟨s.nd, List.nodup_cons.mpr ⟨List.not_mem_nil, List.nodup_nil⟩, fun x hx y hy => ?_⟩
    obtain rfl := List.mem_singleton.mp hy
    exact fun z => s.ne_new h (z ▸ hx)
  · by_cases hn : n < m.length
    · rw [List.getElem?_append_left hn] at ha
      rw [List.getElem?_append_left (by rw [← s.len]; exact hn)] at hu
      exact (s.ob n a u ha hu).mono (List.prefix_append _ _) (Keep.new h) (upd_ne fun z => s.ne_new h (z ▸ List.mem_of_getElem? ha))
    · have e : n = m.length := by
        have := (List.getElem?_eq_some_iff.mp ha).1
        rw [List.length_append, List.length_singleton] at this
        omega
      subst e
      rw [List.getElem?_append_right (Nat.le_refl _), Nat.sub_self] at ha
      rw [s.len, List.getElem?_append_right (Nat.le_refl _), Nat.sub_self] at hu
      cases ha
      cases hu
      exact r
/-- an object of the store is changed -/
theorem SR.set (s : SR K ca H m st) {n : Nat} {p : Addr} {o u : HO} {ob : PO} (hp : m[n]? = some p) (hu : H p = some u) (h1 : ∀ xs, u ≠ .tup xs) (h2 : ∀ o' w, u ≠ .frz o' w)
    (r : OR K ca (L2.upd H p o) m p ob) : SR K ca (L2.upd H p o) m (st.set n ob) := by
  refine ⟨by rw [List.length_set, s.len], s.nd, fun k a w ha hw => ?_⟩
  by_cases e : n = k
  · subst e
    rw [hp] at ha
    cases ha
    rw [List.getElem?_set_self (by rw [← s.len]; exact (List.getElem?_eq_some_iff.mp hp).1)] at hw
    cases hw
    exact r
  · rw [List.getElem?_set_ne e] at hw
    refine (s.ob k a w ha hw).mono (List.prefix_refl _) (Keep.upd hu h1 h2) (upd_ne fun z => e ?_)
    subst z
    have i1 := (List.getElem?_eq_some_iff.mp hp)
    have i2 := (List.getElem?_eq_some_iff.mp ha)
    obtain ⟨l1, e1⟩ := i1
    obtain ⟨l2, e2⟩ := i2
    exact (List.getElem_inj s.nd).mp (e1.trans e2.symm)
end
end

/-! ## what is wanted behind -/
section
variable (K : PySem.W.Frag) (ca : Ca)
/-- an exception -/
def XR (H : Hp) (m : List Addr) (x : Ex) (d : Option Addr) : Prop :=
  match x.val with
  | none => d = none
  | some (f, v) => ∃ a w, d = some a ∧ H a = some (.xd [(f, w)]) ∧ VR K ca H m v w
abbrev WV := Ex → Hp → List Addr → Store → Prop
def Post {α β : Type} (rel : Hp → List Addr → α → β → Prop) (E : Ex → Option Addr → Hp → Prop) (m : List Addr) (H : Hp) (Q : β → Hp → Prop) (r : R α) : Prop :=
  match r with
  | .ok a st' => ∀ m' b H', m <+: m' → Keep K H H' → SR K ca H' m' st' → rel H' m' a b → Q b H'
  | .er x st' => ∀ m' d H', m <+: m' → Keep K H H' → SR K ca H' m' st' → XR K ca H' m' x d → E x d H'
  | .no => False
def Post0 {α β : Type} (rel : Hp → List Addr → α → β → Prop) (m : List Addr) (H : Hp) (Q : β → Hp → Prop) (r : O α) : Prop :=
  match r with
  | some (a, st') => ∀ m' b H', m <+: m' → Keep K H H' → SR K ca H' m' st' → rel H' m' a b → Q b H'
  | none => False
def PostS (E : Ex → Option Addr → L2.St → Hp → Prop) (m : List Addr) (H : Hp) (D : Ends) (r : RS) : Prop :=
  match r with
  | .nx e st' => ∀ m' σ' H', m <+: m' → Keep K H H' → SR K ca H' m' st' → ER K ca H' m' e σ' → D.nx σ' H'
  | .rt v st' => ∀ m' w H', m <+: m' → Keep K H H' → SR K ca H' m' st' → VR K ca H' m' v w → D.rt w H'
  | .bk e st' => ∀ m' σ' H', m <+: m' → Keep K H H' → SR K ca H' m' st' → ER K ca H' m' e σ' → D.bk σ' H'
  | .ct e st' => ∀ m' σ' H', m <+: m' → Keep K H H' → SR K ca H' m' st' → ER K ca H' m' e σ' → D.ct σ' H'
  | .er x e st' => ∀ m' d σ' H', m <+: m' → Keep K H H' → SR K ca H' m' st' → ER K ca H' m' e σ' → XR K ca H' m' x d → E x d σ' H'
  | .no => False
end
section
variable {K : PySem.W.Frag} {ca : Ca} {m m' : List Addr} {H H' : Hp}
theorem Post.mono {α β : Type} {rel : Hp → List Addr → α → β → Prop} {E : Ex → Option Addr → Hp → Prop} {Q : β → Hp → Prop} {r : R α} (h : Post K ca rel E m H Q r) (p : m <+: m') (k : Keep K H H') : Post K ca rel E m' H' Q r := by
  cases r with
  | ok a st => exact fun m2 b H2 p2 k2 => h m2 b H2 (p.trans p2) (k.trans k2)
  | er x st => exact fun m2 b H2 p2 k2 => h m2 b H2 (p.trans p2) (k.trans k2)
  | no => exact h
theorem Post0.mono {α β : Type} {rel : Hp → List Addr → α → β → Prop} {Q : β → Hp → Prop} {r : O α} (h : Post0 K ca rel m H Q r) (p : m <+: m') (k : Keep K H H') : Post0 K ca rel m' H' Q r := by
  cases r with
  | some a => exact fun m2 b H2 p2 k2 => h m2 b H2 (p.trans p2) (k.trans k2)
  | none => exact h
theorem PostS.mono {E : Ex → Option Addr → L2.St → Hp → Prop} {D : Ends} {r : RS} (h : PostS K ca E m H D r) (p : m <+: m') (k : Keep K H H') : PostS K ca E m' H' D r := by
  cases r with
  | nx e st => exact fun m2 b H2 p2 k2 => h m2 b H2 (p.trans p2) (k.trans k2)
  | rt v st => exact fun m2 b H2 p2 k2 => h m2 b H2 (p.trans p2) (k.trans k2)
  | bk e st => exact fun m2 b H2 p2 k2 => h m2 b H2 (p.trans p2) (k.trans k2)
  | ct e st => exact fun m2 b H2 p2 k2 => h m2 b H2 (p.trans p2) (k.trans k2)
  | er x e st => exact fun m2 d b H2 p2 k2 => h m2 d b H2 (p.trans p2) (k.trans k2)
  | no => exact h
theorem Post.of {α β : Type} {rel : Hp → List Addr → α → β → Prop} {E : Ex → Option Addr → Hp → Prop} {Q : β → Hp → Prop} {r : O α} (h : Post K ca rel E m H Q (R.of r)) : Post0 K ca rel m H Q r := by
  cases r with
  | some a => exact h
  | none => exact h
end

/-! ## judgements -/
section
variable (X : Cx) (W : WX) (ca : Ca)
/-- the wish of an exception at the slots σ -/
abbrev EW (σ : L2.St) : Ex → Option Addr → Hp → Prop := fun x d H => W (.ref (ca x.c)) d σ H
abbrev EWs : Ex → Option Addr → L2.St → Hp → Prop := fun x d σ H => W (.ref (ca x.c)) d σ H
abbrev rB : Hp → List Addr → Bool → Bool → Prop := fun _ _ a b => a = b
structure JE (e : Expr) (f : FE) : Prop where
  ex : ∃ t, PE X e t ∧ ∀ σ H m env st Q, SR X.K ca H m st → ER X.K ca H m env σ → Post X.K ca (VR X.K ca) (EW W ca σ) m H Q (f env st) → t σ H Q
structure JT (e : Expr) (f : FT) : Prop where
  ex : ∃ t, PT X e t ∧ ∀ σ H m env st Q, SR X.K ca H m st → ER X.K ca H m env σ → Post X.K ca rB (EW W ca σ) m H Q (f env st) → t σ H Q
/-- and, or, whatever the whole is -/
structure JW (e : Expr) (f : FT) : Prop where
  ex : ∃ t, PW X e t ∧ ∀ σ H m env st Q, SR X.K ca H m st → ER X.K ca H m env σ → Post X.K ca rB (EW W ca σ) m H Q (f env st) → t σ H Q
structure JA (es : List Expr) (f : FA) : Prop where
  ex : ∃ t, PA X es t ∧ ∀ σ H m env st Q, SR X.K ca H m st → ER X.K ca H m env σ → Post X.K ca (VRs X.K ca) (EW W ca σ) m H Q (f env st) → t σ H Q
structure JS (s : Stmt) (f : FS) : Prop where
  ex : ∃ t, PS X s t ∧ ∀ σ H m env st D, SR X.K ca H m st → ER X.K ca H m env σ → PostS X.K ca (EWs W ca) m H D (f env st) → t D σ H
structure JSs (s : List Stmt) (f : FS) : Prop where
  ex : ∃ t, PSs X s t ∧ ∀ σ H m env st D, SR X.K ca H m st → ER X.K ca H m env σ → PostS X.K ca (EWs W ca) m H D (f env st) → t D σ H
/-- a target -/
abbrev FG := PV → Env → Option Env
structure JG (tg : Expr) (g : FG) : Prop where
  ex : ∃ t, PG X tg t ∧ ∀ σ H m env v w env' Q, ER X.K ca H m env σ → VR X.K ca H m v w → g v env = some env' → (∀ σ', ER X.K ca H m env' σ' → Q σ' H) → t w σ H Q
structure JGs (tgs : List Expr) (g : List PV → Env → Option Env) : Prop where
  ex : ∃ t, PGs X tgs t ∧ ∀ σ H m env v w env' Q, ER X.K ca H m env σ → VRs X.K ca H m v w → g v env = some env' → (∀ σ', ER X.K ca H m env' σ' → Q σ' H) → t w σ H Q
end
end FL
end
section
set_option linter.all false
set_option maxRecDepth 100000
namespace FL
open PySem PySem.Spec PyProof.Rows L2
noncomputable section

/-! ## rules of the nodes -/
section
variable {K : PySem.W.Frag} {ca : Ca} {m m' : List Addr} {H H' : Hp}
theorem Post.bind {α β α' β' : Type} {rel : Hp → List Addr → α → β → Prop} {rel2 : Hp → List Addr → α' → β' → Prop} {E : Ex → Option Addr → Hp → Prop} {Q1 : β → Hp → Prop} {Q2 : β' → Hp → Prop} {r : R α} {g : α → Store → R α'}
    (h : Post K ca rel2 E m H Q2 (r.bind g))
    (f : ∀ a st1 m1 b H1, m <+: m1 → Keep K H H1 → SR K ca H1 m1 st1 → rel H1 m1 a b → Post K ca rel2 E m1 H1 Q2 (g a st1) → Q1 b H1) : Post K ca rel E m H Q1 r := by
  cases r with
  | ok a st => exact fun m1 b H1 p k s q => f a st m1 b H1 p k s q (Post.mono h p k)
  | er x st => exact h
  | no => exact h
/-- a result at hand -/
theorem Post.ok {α β : Type} {rel : Hp → List Addr → α → β → Prop} {E : Ex → Option Addr → Hp → Prop} {Q : β → Hp → Prop} {a : α} {st : Store} {b : β} (h : Post K ca rel E m H Q (.ok a st)) (s : SR K ca H m st) (r : rel H m a b) : Q b H :=
  h m b H (List.prefix_refl _) Keep.refl s r
end

def varF (i : Nat) : FE := fun e st => match e[i]? with
  | some (some v) => .ok v st
  | _ => .no
def cstF (v : PV) : FE := fun _ st => .ok v st
def opF (g : PV → PV → Store → O PV) (fa fb : FE) : FE := fun e st => (fa e st).bind fun x s1 => (fb e s1).bind fun y s2 => R.of (g x y s2)
def unF (g : PV → Store → O PV) (fa : FE) : FE := fun e st => (fa e st).bind fun x s1 => R.of (g x s1)
def asB (v : PV) (st : Store) : R Bool := match v with
  | .bl b => .ok b st
  | _ => .no
def chF (g g' : PV → PV → Store → O PV) (fa fb fc : FE) : FE := fun e st => (fa e st).bind fun x s1 => (fb e s1).bind fun y s2 => (R.of (g x y s2)).bind fun z s3 => (asB z s3).bind fun k s4 =>
  if k = true then (fc e s4).bind fun u s5 => R.of (g' y u s5) else .ok (.bl false) s4
def isB (fa : FE) : FT := fun e st => (fa e st).bind asB
def andT (f g : FT) : FT := fun e st => (f e st).bind fun k s1 => if k = true then g e s1 else .ok false s1
def orT (f g : FT) : FT := fun e st => (f e st).bind fun k s1 => if k = true then .ok true s1 else g e s1
def notT (f : FT) : FT := fun e st => (f e st).bind fun k s1 => .ok (!k) s1
def andF (f g : FE) : FE := fun e st => ((f e st).bind asB).bind fun k s1 => if k = true then g e s1 else .ok (.bl false) s1
def orF (f g : FE) : FE := fun e st => ((f e st).bind asB).bind fun k s1 => if k = true then .ok (.bl true) s1 else g e s1
def notF (f : FE) : FE := fun e st => ((f e st).bind asB).bind fun k s1 => .ok (.bl (!k)) s1
def ifF (c : FT) (f g : FE) : FE := fun e st => (c e st).bind fun k s1 => if k = true then f e s1 else g e s1
def nilA : FA := fun _ st => .ok [] st
def consA (f : FE) (g : FA) : FA := fun e st => (f e st).bind fun x s1 => (g e s1).bind fun xs s2 => .ok (x :: xs) s2
def tupF (f : FA) : FE := fun e st => (f e st).bind fun xs s1 => if xs.length ≤ sizeLine then .ok (.tup xs) s1 else .no
def lstF (f : FA) : FE := fun e st => (f e st).bind fun xs s1 => if xs.length ≤ sizeLine then .ok (.ref s1.length) (s1 ++ [.lst xs]) else .no
def cbF (g : List PV → Store → O PV) (f : FA) : FE := fun e st => (f e st).bind fun xs s1 => R.of (g xs s1)
/-- a call of a def; ds: the defaults that fill up -/
def callF (n : Nat) (F : Fn) (ds : List PV) (f : FA) : FE := fun e st => (f e st).bind fun xs s1 => if (xs ++ ds).length = n then F (xs ++ ds) s1 else .no
/-- a method of a built-in type -/
def bmF (g : PV → List PV → Store → O PV) (fo : FE) (f : FA) : FE := fun e st => (fo e st).bind fun o s1 => (f e s1).bind fun xs s2 => R.of (g o xs s2)
def truV (v : PV) (st : Store) : R Bool := match v with
  | .non => .ok false st
  | .bl b => .ok b st
  | .int i => .ok (i != 0) st
  | .str x => if x.length ≤ sizeLine then .ok (x.length != 0) st else .no
  | .tup xs => .ok (!xs.isEmpty) st
  | .frz xs => .ok (!xs.isEmpty) st
  | .ref n => match st[n]? with
    | some (.lst xs) => .ok (!xs.isEmpty) st
    | some (.dK kvs) => .ok (!kvs.isEmpty) st
    | _ => .no
  | _ => .no
def truT (fa : FE) : FT := fun e st => (fa e st).bind truV

section
variable {X : Cx} {W : WX} {ca : Ca}
/-! ### value-level deeds -/
def OpF (X : Cx) (ca : Ca) (f : Value → Value → Sem Value) (g : PV → PV → Store → O PV) : Prop :=
  ∃ r, OpR X f r ∧ ∀ H m st x y x' y' Q, SR X.K ca H m st → VR X.K ca H m x x' → VR X.K ca H m y y' → Post0 X.K ca (VR X.K ca) m H Q (g x y st) → r x' y' H Q
def UnF (X : Cx) (ca : Ca) (f : Value → Sem Value) (g : PV → Store → O PV) : Prop :=
  ∃ r, UnR X f r ∧ ∀ H m st x x' Q, SR X.K ca H m st → VR X.K ca H m x x' → Post0 X.K ca (VR X.K ca) m H Q (g x st) → r x' H Q
def IxF (X : Cx) (ca : Ca) (g : PV → PV → Store → O PV) : Prop :=
  ∃ r, IxR X r ∧ ∀ H m st x y x' y' Q, SR X.K ca H m st → VR X.K ca H m x x' → VR X.K ca H m y y' → Post0 X.K ca (VR X.K ca) m H Q (g x y st) → r x' y' H Q
def CbF (X : Cx) (ca : Ca) (f : Value) (g : List PV → Store → O PV) : Prop :=
  ∃ r, CallR X f r ∧ ∀ H m st xs vs Q, SR X.K ca H m st → VRs X.K ca H m xs vs → Post0 X.K ca (VR X.K ca) m H Q (g xs st) → r vs H Q
/-- T: the type of the receiver -/
def BmF (X : Cx) (ca : Ca) (T : String) (id : String) (g : PV → List PV → Store → O PV) : Prop :=
  ∃ r, MtR X id r ∧ ∀ H m st o o' xs vs Q, SR X.K ca H m st → VR X.K ca H m o o' → VRs X.K ca H m xs vs → Post0 X.K ca (VR X.K ca) m H Q (g o xs st) → r o' vs H Q

/-! ### names, constants -/
theorem je_v (i : Nat) {x : Str} {pos : Pos} (hN : X.N[i]? = some x := by rfl) (hv : Vis X.env.scope x := by first | exact Or.inl rfl | exact Or.inr (Or.inl rfl) | exact Or.inr (Or.inr rfl))
    (hd : (x == ("__debug__" : Str)) = false := by decide) (hcd : (x == ("__classdict__" : Str)) = false := by decide) : JE X W ca (.Name x pos) (varF i) := by
  refine ⟨_, pe_var hN hv hd hcd, fun σ H m env st Q s e h => ?_⟩
  unfold varF at h
  split at h
  · rename_i v hv
    obtain ⟨w, h1, h2⟩ := e.2 i v hv
    exact ⟨w, h1, h.ok s h2⟩
  · exact h.elim
theorem je_int {i j pos} : JE X W ca (.Constant (.int i) j pos) (cstF (.int i)) := ⟨_, pe_int, fun σ H m env st Q s e h => h.ok s (.int i)⟩
theorem je_bl {b j pos} : JE X W ca (.Constant (.bool b) j pos) (cstF (.bl b)) := ⟨_, pe_bl, fun σ H m env st Q s e h => h.ok s (.bl b)⟩
theorem je_non {j pos} : JE X W ca (.Constant .none j pos) (cstF .non) := ⟨_, pe_non, fun σ H m env st Q s e h => h.ok s .non⟩
theorem je_str {x j pos} : JE X W ca (.Constant (.str x) j pos) (cstF (.str x)) := ⟨_, pe_str, fun σ H m env st Q s e h => h.ok s (.str x)⟩
/-- a constant of the module -/
theorem je_glob {x : Str} {v : PV} {u : Value} {w : V} {pos : Pos} (hg : Gl X x) (hm : X.mg x = some u) (r : RelV w u) (hr : ∀ H m, VR X.K ca H m v w) (hd : (x == ("__debug__" : Str)) = false := by decide) : JE X W ca (.Name x pos) (cstF v) :=
  ⟨_, pe_glob hg hm r hd, fun σ H m env st Q s e h => h.ok s (hr H m)⟩
/-- a built-in type as a value -/
theorem je_ty {x : Str} {n : String} {pos : Pos} (hg : Gl X x) (hm : X.mg x = none) (hv : bootBuiltins x = some (.type n)) (hn : x ≠ "__name__" := by decide) (hd : (x == ("__debug__" : Str)) = false := by decide) : JE X W ca (.Name x pos) (cstF (.ty n)) :=
  ⟨_, pe_bltn (v := .ty n) hg hm hv rfl hn hd, fun σ H m env st Q s e h => h.ok s (.ty n)⟩

/-! ### operators -/
theorem je_op {op : Operator} {a b : Expr} {pos : Pos} {fa fb : FE} {g : PV → PV → Store → O PV} (ho : OpF X ca (binaryOp op) g) (ha : JE X W ca a fa) (hb : JE X W ca b fb) : JE X W ca (.BinOp a op b pos) (opF g fa fb) := by
  obtain ⟨ta, pa, ra⟩ := ha.ex
  obtain ⟨tb, pb, rb⟩ := hb.ex
  obtain ⟨r, po, ro⟩ := ho
  refine ⟨_, pe_op po pa pb, fun σ H m env st Q s e h => ?_⟩
  refine ra σ H m env st _ s e (Post.bind h fun x st1 m1 x' H1 p1 k1 s1 r1 h1 => ?_)
  refine rb σ H1 m1 env st1 _ s1 (e.mono p1 k1) (Post.bind h1 fun y st2 m2 y' H2 p2 k2 s2 r2 h2 => ?_)
  exact ro H2 m2 st2 x y x' y' Q s2 (r1.mono p2 k2) r2 h2.of
theorem je_un {op : UnaryOp} {a : Expr} {pos : Pos} {fa : FE} {g : PV → Store → O PV} (ho : UnF X ca (unaryOp op) g) (ha : JE X W ca a fa) : JE X W ca (.UnaryOp op a pos) (unF g fa) := by
  obtain ⟨ta, pa, ra⟩ := ha.ex
  obtain ⟨r, po, ro⟩ := ho
  refine ⟨_, pe_un po pa, fun σ H m env st Q s e h => ?_⟩
  refine ra σ H m env st _ s e (Post.bind h fun x st1 m1 x' H1 p1 k1 s1 r1 h1 => ?_)
  exact ro H1 m1 st1 x x' Q s1 r1 h1.of
theorem je_cmp {op : CmpOp} {a b : Expr} {pos : Pos} {fa fb : FE} {g : PV → PV → Store → O PV} (ho : OpF X ca (compareOp op) g) (ha : JE X W ca a fa) (hb : JE X W ca b fb) (hm : behindInMarks op b = false) : JE X W ca (.Compare a [op] [b] pos) (opF g fa fb) := by
  obtain ⟨ta, pa, ra⟩ := ha.ex
  obtain ⟨tb, pb, rb⟩ := hb.ex
  obtain ⟨r, po, ro⟩ := ho
  refine ⟨_, pe_cmpR po pa pb hm, fun σ H m env st Q s e h => ?_⟩
  refine ra σ H m env st _ s e (Post.bind h fun x st1 m1 x' H1 p1 k1 s1 r1 h1 => ?_)
  refine rb σ H1 m1 env st1 _ s1 (e.mono p1 k1) (Post.bind h1 fun y st2 m2 y' H2 p2 k2 s2 r2 h2 => ?_)
  exact ro H2 m2 st2 x y x' y' Q s2 (r1.mono p2 k2) r2 h2.of
theorem asB_post {m : List Addr} {H : Hp} {E : Ex → Option Addr → Hp → Prop} {Q : Bool → Hp → Prop} {x : PV} {x' : V} {st : Store} (h : Post X.K ca rB E m H Q (asB x st)) (s : SR X.K ca H m st) (r : VR X.K ca H m x x') : ∃ k, x' = .bl k ∧ Q k H := by
  cases r with
  | bl b => exact ⟨b, rfl, h.ok s rfl⟩
  | _ => exact h.elim
theorem jt_cmp {op : CmpOp} {a b : Expr} {pos : Pos} {fa fb : FE} {g : PV → PV → Store → O PV} (ho : OpF X ca (compareOp op) g) (ha : JE X W ca a fa) (hb : JE X W ca b fb) (hm : behindInMarks op b = false) : JT X W ca (.Compare a [op] [b] pos) (isB (opF g fa fb)) := by
  obtain ⟨ta, pa, ra⟩ := ha.ex
  obtain ⟨tb, pb, rb⟩ := hb.ex
  obtain ⟨r, po, ro⟩ := ho
  refine ⟨_, pt_cmpR po pa pb hm, fun σ H m env st Q s e h => ?_⟩
  unfold isB opF at h
  have h' : Post X.K ca rB (EW W ca σ) m H Q ((fa env st).bind fun x s1 => (fb env s1).bind fun y s2 => (R.of (g x y s2)).bind asB) := by
    cases q : fa env st with
    | ok x s1 =>
      rw [q] at h
      simp only [R.bind] at h ⊢
      cases q2 : fb env s1 <;> rw [q2] at h <;> exact h
    | er x s1 => rw [q] at h; exact h
    | no => rw [q] at h; exact h
  refine ra σ H m env st _ s e (Post.bind h' fun x st1 m1 x' H1 p1 k1 s1 r1 h1 => ?_)
  refine rb σ H1 m1 env st1 _ s1 (e.mono p1 k1) (Post.bind h1 fun y st2 m2 y' H2 p2 k2 s2 r2 h2 => ?_)
  refine ro H2 m2 st2 x y x' y' _ s2 (r1.mono p2 k2) r2 (Post.of (Post.bind h2 fun z st3 m3 z' H3 p3 k3 s3 r3 h3 => ?_))
  exact asB_post h3 s3 r3
theorem je_ch {op op' : CmpOp} {a b c : Expr} {pos : Pos} {fa fb fc : FE} {g g' : PV → PV → Store → O PV} (ho : OpF X ca (compareOp op) g) (ho' : OpF X ca (compareOp op') g') (ha : JE X W ca a fa) (hb : JE X W ca b fb) (hc : JE X W ca c fc)
    (hm : lastMarks [op, op'] [b, c] = false := by with_unfolding_all rfl) : JE X W ca (.Compare a [op, op'] [b, c] pos) (chF g g' fa fb fc) := by
  obtain ⟨ta, pa, ra⟩ := ha.ex
  obtain ⟨tb, pb, rb⟩ := hb.ex
  obtain ⟨tc, pc, rc⟩ := hc.ex
  obtain ⟨r, po, ro⟩ := ho
  obtain ⟨r', po', ro'⟩ := ho'
  refine ⟨_, pe_chain po po' pa pb pc hm, fun σ H m env st Q s e h => ?_⟩
  refine ra σ H m env st _ s e (Post.bind h fun x st1 m1 x' H1 p1 k1 s1 r1 h1 => ?_)
  refine rb σ H1 m1 env st1 _ s1 (e.mono p1 k1) (Post.bind h1 fun y st2 m2 y' H2 p2 k2 s2 r2 h2 => ?_)
  refine ro H2 m2 st2 x y x' y' _ s2 (r1.mono p2 k2) r2 (Post.of (Post.bind h2 fun z st3 m3 z' H3 p3 k3 s3 r3 h3 => ?_))
  have h4 := Post.bind (rel := rB) (Q1 := fun k H4 => H4 = H3 → if k = true then tc σ H4 (fun u H5 => r' y' u H5 Q) else Q (.bl false) H4) h3 fun k st4 m4 k' H4 p4 k4 s4 r4 h4 e4 => by
    subst e4
    have rk : k = k' := r4
    subst rk
    cases k with
    | true =>
      rw [if_pos rfl] at h4 ⊢
      refine rc σ H4 m4 env st4 _ s4 (e.mono (((p1.trans p2).trans p3).trans p4) (((k1.trans k2).trans k3).trans k4)) (Post.bind h4 fun u st5 m5 u' H5 p5 k5 s5 r5 h5 => ?_)
      exact ro' H5 m5 st5 y u y' u' Q s5 (r2.mono ((p3.trans p4).trans p5) ((k3.trans k4).trans k5)) r5 h5.of
    | false =>
      rw [if_neg Bool.false_ne_true] at h4 ⊢
      exact h4.ok s4 (.bl false)
  obtain ⟨k, ek, q⟩ := asB_post h4 s3 r3
  subst ek
  exact ⟨k, rfl, q rfl⟩
theorem jt_val {e : Expr} {f : FE} (h : JE X W ca e f) (he : ∀ whole, isTrue e X.env whole = (do let v ← whole; standAt e.pos; holding [v] (truthy v)) := by intro _; rfl) : JT X W ca e (isB f) := by
  obtain ⟨t, p, r⟩ := h.ex
  refine ⟨_, pt_val p he, fun σ H m env st Q s e h => ?_⟩
  exact r σ H m env st _ s e (Post.bind h fun z st3 m3 z' H3 p3 k3 s3 r3 h3 => asB_post h3 s3 r3)
theorem truV_post {m : List Addr} {H : Hp} {E : Ex → Option Addr → Hp → Prop} {Q : Bool → Hp → Prop} {x : PV} {x' : V} {st : Store} (h : Post X.K ca rB E m H Q (truV x st)) (s : SR X.K ca H m st) (r : VR X.K ca H m x x') : ∃ k, TruV X.K x' H k ∧ Q k H := by
  have ie : ∀ {xs : List PV} {vs : List V}, VRs X.K ca H m xs vs → (!xs.isEmpty) = (!vs.isEmpty) := fun q => by cases q <;> rfl
  cases r with
  | non => exact ⟨false, rfl, h.ok s rfl⟩
  | bl b => exact ⟨b, rfl, h.ok s rfl⟩
  | int i => exact ⟨_, rfl, h.ok s rfl⟩
  | str x =>
    simp only [truV] at h
    split at h
    · rename_i hl
      exact ⟨_, ⟨hl, rfl⟩, h.ok s (by show (x.length != 0) = (((x.length : Nat) : Int) != 0); cases x.length with | zero => rfl | succ n => rw [show (n + 1 != 0) = true by simp]; symm; simp; omega)⟩
    · exact h.elim
  | tup hs rs => exact ⟨_, .inr (.inl ⟨_, hs, rfl⟩), h.ok s (ie rs)⟩
  | frz hs rs => exact ⟨_, .inl ⟨_, hs.sq, rfl⟩, h.ok s (ie rs)⟩
  | ref hn =>
    simp only [truV] at h
    split at h
    · rename_i xs hx
      obtain ⟨vs, e1, rs⟩ := s.at hx hn
      exact ⟨_, .inl ⟨_, SqL.of e1, rfl⟩, h.ok s (ie rs)⟩
    · rename_i kvs hx
      obtain ⟨vs, e1, rs⟩ := s.at hx hn
      refine ⟨_, .inr (.inr ⟨_, e1, rfl⟩), h.ok s ?_⟩
      show (!kvs.isEmpty) = (!vs.isEmpty)
      cases rs <;> rfl
    · exact h.elim
  | _ => exact h.elim
theorem jt_tru {e : Expr} {f : FE} (h : JE X W ca e f) (he : ∀ whole, isTrue e X.env whole = (do let v ← whole; standAt e.pos; holding [v] (truthy v)) := by intro _; rfl) : JT X W ca e (truT f) := by
  obtain ⟨t, p, r⟩ := h.ex
  refine ⟨_, pt_truth p he, fun σ H m env st Q s e h => ?_⟩
  exact r σ H m env st _ s e (Post.bind h fun z st3 m3 z' H3 p3 k3 s3 r3 h3 => truV_post h3 s3 r3)
theorem JW.jt {e : Expr} {f : FT} (h : JW X W ca e f) : JT X W ca e f := by
  obtain ⟨t, p, r⟩ := h.ex
  exact ⟨t, p.pt, r⟩
theorem jw_and1 {a : Expr} {pos : Pos} {f : FT} (ha : JT X W ca a f) : JW X W ca (.BoolOp .And [a] pos) f := by
  obtain ⟨t, p, r⟩ := ha.ex
  exact ⟨_, pw_and1 p, r⟩
theorem jw_or1 {a : Expr} {pos : Pos} {f : FT} (ha : JT X W ca a f) : JW X W ca (.BoolOp .Or [a] pos) f := by
  obtain ⟨t, p, r⟩ := ha.ex
  exact ⟨_, pw_or1 p, r⟩
theorem jw_and {a b : Expr} {rest : List Expr} {pos : Pos} {f g : FT} (ha : JT X W ca a f) (hb : JW X W ca (.BoolOp .And (b :: rest) pos) g) : JW X W ca (.BoolOp .And (a :: b :: rest) pos) (andT f g) := by
  obtain ⟨t, p, r⟩ := ha.ex
  obtain ⟨u, q, z⟩ := hb.ex
  refine ⟨_, pw_and p q, fun σ H m env st Q s e h => ?_⟩
  refine r σ H m env st _ s e (Post.bind h fun k st1 m1 k' H1 p1 k1 s1 r1 h1 => ?_)
  have rk : k = k' := r1
  subst rk
  cases k with
  | true => exact z σ H1 m1 env st1 Q s1 (e.mono p1 k1) h1
  | false => exact h1.ok s1 rfl
theorem jw_or {a b : Expr} {rest : List Expr} {pos : Pos} {f g : FT} (ha : JT X W ca a f) (hb : JW X W ca (.BoolOp .Or (b :: rest) pos) g) : JW X W ca (.BoolOp .Or (a :: b :: rest) pos) (orT f g) := by
  obtain ⟨t, p, r⟩ := ha.ex
  obtain ⟨u, q, z⟩ := hb.ex
  refine ⟨_, pw_or p q, fun σ H m env st Q s e h => ?_⟩
  refine r σ H m env st _ s e (Post.bind h fun k st1 m1 k' H1 p1 k1 s1 r1 h1 => ?_)
  have rk : k = k' := r1
  subst rk
  cases k with
  | true => exact h1.ok s1 rfl
  | false => exact z σ H1 m1 env st1 Q s1 (e.mono p1 k1) h1
theorem jt_not {a : Expr} {pos : Pos} {f : FT} (ha : JT X W ca a f) : JT X W ca (.UnaryOp .Not a pos) (notT f) := by
  obtain ⟨t, p, r⟩ := ha.ex
  refine ⟨_, pt_not p, fun σ H m env st Q s e h => ?_⟩
  refine r σ H m env st _ s e (Post.bind h fun k st1 m1 k' H1 p1 k1 s1 r1 h1 => ?_)
  have rk : k = k' := r1
  subst rk
  exact h1.ok s1 rfl
theorem je_one {op} {a : Expr} {pos : Pos} {f : FE} (ha : JE X W ca a f) : JE X W ca (.BoolOp op [a] pos) f := by
  obtain ⟨t, p, r⟩ := ha.ex
  exact ⟨_, pe_one p, r⟩
theorem je_and {a b : Expr} {rest : List Expr} {pos : Pos} {f g : FE} (ha : JE X W ca a f) (hb : JE X W ca (.BoolOp .And (b :: rest) pos) g) : JE X W ca (.BoolOp .And (a :: b :: rest) pos) (andF f g) := by
  obtain ⟨t, p, r⟩ := ha.ex
  obtain ⟨u, q, z⟩ := hb.ex
  refine ⟨_, pe_and p q, fun σ H m env st Q s e h => ?_⟩
  have h' : Post X.K ca (VR X.K ca) (EW W ca σ) m H Q ((f env st).bind fun x s1 => (asB x s1).bind fun k s1 => if k = true then g env s1 else .ok (.bl false) s1) := by
    unfold andF at h
    cases q : f env st <;> rw [q] at h <;> exact h
  refine r σ H m env st _ s e (Post.bind h' fun x st1 m1 x' H1 p1 k1 s1 r1 h1 => ?_)
  cases r1 with
  | bl k =>
    refine ⟨k, rfl, ?_⟩
    cases k with
    | true => exact z σ H1 m1 env st1 Q s1 (e.mono p1 k1) h1
    | false => exact h1.ok s1 (.bl false)
  | _ => exact h1.elim
theorem je_or {a b : Expr} {rest : List Expr} {pos : Pos} {f g : FE} (ha : JE X W ca a f) (hb : JE X W ca (.BoolOp .Or (b :: rest) pos) g) : JE X W ca (.BoolOp .Or (a :: b :: rest) pos) (orF f g) := by
  obtain ⟨t, p, r⟩ := ha.ex
  obtain ⟨u, q, z⟩ := hb.ex
  refine ⟨_, pe_or p q, fun σ H m env st Q s e h => ?_⟩
  have h' : Post X.K ca (VR X.K ca) (EW W ca σ) m H Q ((f env st).bind fun x s1 => (asB x s1).bind fun k s1 => if k = true then .ok (.bl true) s1 else g env s1) := by
    unfold orF at h
    cases q : f env st <;> rw [q] at h <;> exact h
  refine r σ H m env st _ s e (Post.bind h' fun x st1 m1 x' H1 p1 k1 s1 r1 h1 => ?_)
  cases r1 with
  | bl k =>
    refine ⟨k, rfl, ?_⟩
    cases k with
    | true => exact h1.ok s1 (.bl true)
    | false => exact z σ H1 m1 env st1 Q s1 (e.mono p1 k1) h1
  | _ => exact h1.elim
theorem je_not {a : Expr} {pos : Pos} {f : FE} (ha : JE X W ca a f) : JE X W ca (.UnaryOp .Not a pos) (notF f) := by
  obtain ⟨t, p, r⟩ := ha.ex
  refine ⟨_, pe_not p, fun σ H m env st Q s e h => ?_⟩
  have h' : Post X.K ca (VR X.K ca) (EW W ca σ) m H Q ((f env st).bind fun x s1 => (asB x s1).bind fun k s1 => .ok (.bl (!k)) s1) := by
    unfold notF at h
    cases q : f env st <;> rw [q] at h <;> exact h
  refine r σ H m env st _ s e (Post.bind h' fun x st1 m1 x' H1 p1 k1 s1 r1 h1 => ?_)
  cases r1 with
  | bl k => exact ⟨k, rfl, h1.ok s1 (.bl _)⟩
  | _ => exact h1.elim
theorem je_if {c a b : Expr} {pos : Pos} {fc : FT} {f g : FE} (hc : JT X W ca c fc) (ha : JE X W ca a f) (hb : JE X W ca b g) : JE X W ca (.IfExp c a b pos) (ifF fc f g) := by
  obtain ⟨tc, pc, rc⟩ := hc.ex
  obtain ⟨t, p, r⟩ := ha.ex
  obtain ⟨u, q, z⟩ := hb.ex
  refine ⟨_, pe_ifExp pc p q, fun σ H m env st Q s e h => ?_⟩
  refine rc σ H m env st _ s e (Post.bind h fun k st1 m1 k' H1 p1 k1 s1 r1 h1 => ?_)
  have rk : k = k' := r1
  subst rk
  cases k with
  | true => exact r σ H1 m1 env st1 Q s1 (e.mono p1 k1) h1
  | false => exact z σ H1 m1 env st1 Q s1 (e.mono p1 k1) h1

/-! ### argument lists, displays -/
theorem ja_nil : JA X W ca [] nilA := ⟨_, pa_nil, fun σ H m env st Q s e h => h.ok s .nil⟩
theorem ja_cons {e : Expr} {es : List Expr} {f : FE} {g : FA} (ha : JE X W ca e f) (hr : JA X W ca es g) (hs : starEach (e :: es) X.env = (false, eval e X.env) :: starEach es X.env := by rfl) : JA X W ca (e :: es) (consA f g) := by
  obtain ⟨t, p, r⟩ := ha.ex
  obtain ⟨u, q, z⟩ := hr.ex
  refine ⟨_, pa_cons p q hs, fun σ H m env st Q s e h => ?_⟩
  refine r σ H m env st _ s e (Post.bind h fun x st1 m1 x' H1 p1 k1 s1 r1 h1 => ?_)
  refine z σ H1 m1 env st1 _ s1 (e.mono p1 k1) (Post.bind h1 fun y st2 m2 y' H2 p2 k2 s2 r2 h2 => ?_)
  exact h2.ok s2 (.cons (r1.mono p2 k2) r2)
theorem upd_t {K : PySem.W.Frag} {ca : Ca} {H : Hp} {m : List Addr} {st : Store} {p : Addr} {xs : List PV} {vs : List V} (s : SR K ca H m st) (hp : H p = none) (r : VRs K ca H m xs vs) :
    Keep K H (upd H p (.tup vs)) ∧ SR K ca (upd H p (.tup vs)) m st ∧ VR K ca (upd H p (.tup vs)) m (.tup xs) (.ref p) :=
  ⟨Keep.new hp, s.skip hp, .tup (SqT.of upd_same) (r.mono (List.prefix_refl _) (Keep.new hp))⟩
theorem upd_l {K : PySem.W.Frag} {ca : Ca} {H : Hp} {m : List Addr} {st : Store} {p : Addr} {xs : List PV} {vs : List V} (s : SR K ca H m st) (hp : H p = none) (r : VRs K ca H m xs vs) :
    m <+: m ++ [p] ∧ Keep K H (upd H p (.lst vs)) ∧ SR K ca (upd H p (.lst vs)) (m ++ [p]) (st ++ [.lst xs]) ∧ VR K ca (upd H p (.lst vs)) (m ++ [p]) (.ref st.length) (.ref p) :=
  ⟨List.prefix_append _ _, Keep.new hp, s.new hp ⟨vs, upd_same, r.mono (List.prefix_append _ _) (Keep.new hp)⟩, .ref (by rw [← s.len, List.getElem?_append_right (Nat.le_refl _), Nat.sub_self]; rfl)⟩
theorem je_tup {es : List Expr} {x1} {pos : Pos} {f : FA} (h : JA X W ca es f) : JE X W ca (.Tuple es x1 pos) (tupF f) := by
  obtain ⟨t, p, r⟩ := h.ex
  refine ⟨_, pe_tup p, fun σ H m env st Q s e h => ?_⟩
  refine r σ H m env st _ s e (Post.bind h fun x st1 m1 x' H1 p1 k1 s1 r1 h1 => ?_)
  split at h1
  · rename_i hz
    refine ⟨by rw [← r1.length]; exact hz, fun q hq => ?_⟩
    obtain ⟨a, b, c⟩ := upd_t s1 hq r1
    exact h1 m1 _ _ (List.prefix_refl _) a b c
  · exact h1.elim
theorem je_lst {es : List Expr} {pos : Pos} {f : FA} (h : JA X W ca es f) : JE X W ca (.List es pos) (lstF f) := by
  obtain ⟨t, p, r⟩ := h.ex
  refine ⟨_, pe_lst p, fun σ H m env st Q s e h => ?_⟩
  refine r σ H m env st _ s e (Post.bind h fun x st1 m1 x' H1 p1 k1 s1 r1 h1 => ?_)
  split at h1
  · rename_i hz
    refine ⟨by rw [← r1.length]; exact hz, fun q hq => ?_⟩
    obtain ⟨a, b, c, d⟩ := upd_l s1 hq r1
    exact h1 _ _ _ a b c d
  · exact h1.elim

/-! ### calls -/
/-- a def's promise, from what it does on values -/
def spF (K : PySem.W.Frag) (ca : Ca) (n : Nat) (F : Fn) : Sp := fun vs H Q E => ∃ m st xs, SR K ca H m st ∧ VRs K ca H m xs vs ∧ xs.length = n ∧ Post K ca (VR K ca) (fun x d H' => E (.ref (ca x.c)) d H') m H Q (F xs st)
/-- a def that can be called: level, parameters, the defaults that fill up -/
structure Cal (P : Program) (w : World) (K : PySem.W.Frag) (mg : Str → Option Value) (base : Heap) (ca : Ca) (k : Nat) (f : Addr) (fd : FuncData) (ps : List Str) (F : Fn) : Prop where
  ok : FnOk P w K mg base (L2.CX P w) k f fd ps (spF K ca ps.length F)
  kp : PySem.W.keepIn K (.ref f) = true
/-- the defaults that fill up -/
structure Bnd (K : PySem.W.Frag) (ca : Ca) (fd : FuncData) (ps : List Str) (ds : List PV) : Prop where
  ex : ∃ (us : List Value) (vs : List V), Binds K fd ps us ∧ Vals vs us ∧ ∀ H m, VRs K ca H m ds vs
theorem Bnd.nil {K : PySem.W.Frag} {fd : FuncData} {ps : List Str} (b : Binds K fd ps []) : Bnd K ca fd ps [] := ⟨[], [], b, .nil, fun _ _ => .nil⟩
theorem je_call {k n : Nat} {f : Addr} {fd : FuncData} {ps : List Str} {F : Fn} {ds : List PV} {x : Str} {p pos : Pos} {e : Expr} {es : List Expr} {fa : FA} (tk : Takes X W) (C : Cal X.prog X.w X.K X.mg X.base ca k f fd ps F) (b : Bnd X.K ca fd ps ds) (hr : Room k X.A) (hm : X.mg x = some (.ref f))
    (ha : JA X W ca (e :: es) fa) (hn : ps.length = n := by rfl) (hg : Gl X x := by rfl) (hdb : (x == ("__debug__" : Str)) = false := by decide) (he : starEach (e :: es) X.env = (false, eval e X.env) :: starEach es X.env := by rfl) (hpl : (backTo pos (starEach es X.env)).any (·.1) = false := by rfl) :
    JE X W ca (.Call (.Name x p) (e :: es) [] pos) (callF n F ds fa) := by
  subst hn
  obtain ⟨t, pa, r⟩ := ha.ex
  obtain ⟨us, vs, hb, hd, rd⟩ := b.ex
  refine ⟨_, pe_callSD (E := WE W) C.ok hr hg hm C.kp hb hd (passAt tk) pa hdb he hpl, fun σ H m env st Q s e h => ?_⟩
  refine r σ H m env st _ s e (Post.bind h fun x st1 m1 x' H1 p1 k1 s1 r1 h1 => ?_)
  split at h1
  · rename_i hl
    exact ⟨m1, st1, _, s1, r1.append (rd H1 m1), hl, h1⟩
  · exact h1.elim
theorem je_callB {id : String} {g : List PV → Store → O PV} {x : Str} {p pos : Pos} {e : Expr} {es : List Expr} {fa : FA} (hc : CbF X ca (.builtin id) g) (hm : X.mg x = none) (hv : bootBuiltins x = some (.builtin id)) (ha : JA X W ca (e :: es) fa) (hg : Gl X x := by rfl) (hn : x ≠ "__name__" := by decide) (hdb : (x == ("__debug__" : Str)) = false := by decide)
    (he : starEach (e :: es) X.env = (false, eval e X.env) :: starEach es X.env := by rfl) (hpl : (backTo pos (starEach es X.env)).any (·.1) = false := by rfl) : JE X W ca (.Call (.Name x p) (e :: es) [] pos) (cbF g fa) := by
  obtain ⟨t, pa, r⟩ := ha.ex
  obtain ⟨rr, pc, rc⟩ := hc
  refine ⟨_, pe_callB pc hg hm hv pa hn hdb he hpl, fun σ H m env st Q s e h => ?_⟩
  refine r σ H m env st _ s e (Post.bind h fun x st1 m1 x' H1 p1 k1 s1 r1 h1 => ?_)
  exact rc H1 m1 st1 x x' Q s1 r1 h1.of
theorem je_callTy {T : String} {g : List PV → Store → O PV} {x : Str} {p pos : Pos} {e : Expr} {es : List Expr} {fa : FA} (hc : CbF X ca (.type T) g) (hm : X.mg x = none) (hv : bootBuiltins x = some (.type T)) (ha : JA X W ca (e :: es) fa) (hg : Gl X x := by rfl) (hn : x ≠ "__name__" := by decide) (hdb : (x == ("__debug__" : Str)) = false := by decide)
    (he : starEach (e :: es) X.env = (false, eval e X.env) :: starEach es X.env := by rfl) (hpl : (backTo pos (starEach es X.env)).any (·.1) = false := by rfl) : JE X W ca (.Call (.Name x p) (e :: es) [] pos) (cbF g fa) := by
  obtain ⟨t, pa, r⟩ := ha.ex
  obtain ⟨rr, pc, rc⟩ := hc
  refine ⟨_, pe_callTy pc hg hm hv pa hn hdb he hpl, fun σ H m env st Q s e h => ?_⟩
  refine r σ H m env st _ s e (Post.bind h fun x st1 m1 x' H1 p1 k1 s1 r1 h1 => ?_)
  exact rc H1 m1 st1 x x' Q s1 r1 h1.of
/-! ### subscripts -/
theorem je_ix {g : PV → PV → Store → O PV} {a b : Expr} {pos : Pos} {fa fb : FE} (hi : IxF X ca g) (ha : JE X W ca a fa) (hb : JE X W ca b fb) (hs : PlainIx b := by exact fun _ _ => rfl) : JE X W ca (.Subscript a b pos) (opF g fa fb) := by
  obtain ⟨ta, pa, ra⟩ := ha.ex
  obtain ⟨tb, pb, rb⟩ := hb.ex
  obtain ⟨r, po, ro⟩ := hi
  refine ⟨_, pe_ix po pa pb hs, fun σ H m env st Q s e h => ?_⟩
  refine ra σ H m env st _ s e (Post.bind h fun x st1 m1 x' H1 p1 k1 s1 r1 h1 => ?_)
  refine rb σ H1 m1 env st1 _ s1 (e.mono p1 k1) (Post.bind h1 fun y st2 m2 y' H2 p2 k2 s2 r2 h2 => ?_)
  exact ro H2 m2 st2 x y x' y' Q s2 (r1.mono p2 k2) r2 h2.of
end
end
end FL
end
section
set_option linter.all false
set_option maxRecDepth 100000
namespace FL
open PySem PySem.Spec PyProof.Rows L2
noncomputable section

/-! ## statements -/
def R.toS {α : Type} (r : R α) (e : Env) (g : α → Store → RS) : RS :=
  match r with
  | .ok a s => g a s
  | .er x s => .er x e s
  | .no => .no
def nxS : FS := fun e st => .nx e st
def bkS : FS := fun e st => .bk e st
def ctS : FS := fun e st => .ct e st
def seqS (f g : FS) : FS := fun e st => match f e st with
  | .nx e1 s1 => g e1 s1
  | r => r
def ifS (c : FT) (f g : FS) : FS := fun e st => (c e st).toS e fun k s1 => if k = true then f e s1 else g e s1
def dropS (f : FE) : FS := fun e st => (f e st).toS e fun _ s1 => .nx e s1
def retS (f : FE) : FS := fun e st => (f e st).toS e fun v s1 => .rt v s1
def retN : FS := fun _ st => .rt .non st
def setS (i : Nat) (f : FE) : FS := fun e st => (f e st).toS e fun v s1 => .nx (e.set i (some v)) s1
def augS (i : Nat) (g : PV → PV → Store → O PV) (f : FE) : FS := fun e st => match e[i]? with
  | some (some x) => (f e st).toS e fun y s1 => (R.of (g x y s1)).toS e fun z s2 => .nx (e.set i (some z)) s2
  | _ => .no
def nameG (i : Nat) : FG := fun v e => some (e.set i (some v))
def nilG : List PV → Env → Option Env := fun vs e => match vs with
  | [] => some e
  | _ => none
def consG (g : FG) (h : List PV → Env → Option Env) : List PV → Env → Option Env := fun vs e => match vs with
  | v :: r => (g v e).bind fun e1 => h r e1
  | [] => none
def tupG (n : Nat) (h : List PV → Env → Option Env) : FG := fun v e => match v with
  | .tup xs => if xs.length = n then h xs e else none
  | _ => none
def asgS (g : FG) (f : FE) : FS := fun e st => (f e st).toS e fun v s1 => match g v e with
  | some e1 => .nx e1 s1
  | none => .no
/-- o[i] = v: the value first -/
def subS (g : PV → PV → PV → Store → Option Store) (fv fo fi : FE) : FS := fun e st => (fv e st).toS e fun v s1 => (fo e s1).toS e fun o s2 => (fi e s2).toS e fun i s3 => match g o i v s3 with
  | some s4 => .nx e s4
  | none => .no

section
variable {K : PySem.W.Frag} {ca : Ca} {m m' : List Addr} {H H' : Hp}
theorem Post.toS {α β : Type} {rel : Hp → List Addr → α → β → Prop} {E : Ex → Option Addr → L2.St → Hp → Prop} {Q1 : β → Hp → Prop} {D : Ends} {r : R α} {env : Env} {σ : L2.St} {g : α → Store → RS}
    (h : PostS K ca E m H D (r.toS env g)) (e : ER K ca H m env σ)
    (f : ∀ a st1 m1 b H1, m <+: m1 → Keep K H H1 → SR K ca H1 m1 st1 → rel H1 m1 a b → PostS K ca E m1 H1 D (g a st1) → Q1 b H1) : Post K ca rel (fun x d H => E x d σ H) m H Q1 r := by
  cases r with
  | ok a st => exact fun m1 b H1 p k s q => f a st m1 b H1 p k s q (PostS.mono h p k)
  | er x st => exact fun m1 d H1 p k s q => h m1 d σ H1 p k s (e.mono p k) q
  | no => exact h
theorem PostS.nx {E : Ex → Option Addr → L2.St → Hp → Prop} {D : Ends} {env : Env} {σ : L2.St} {st : Store} (h : PostS K ca E m H D (.nx env st)) (s : SR K ca H m st) (e : ER K ca H m env σ) : D.nx σ H :=
  h m σ H (List.prefix_refl _) Keep.refl s e
theorem ER.set {env : Env} {σ : L2.St} {v : PV} {w : V} (e : ER K ca H m env σ) (r : VR K ca H m v w) (i : Nat) : ER K ca H m (env.set i (some v)) (σ.set i (some w)) := by
  refine ⟨by rw [List.length_set, List.length_set, e.1], fun j u q => ?_⟩
  by_cases hj : i = j
  · subst hj
    have hi : i < env.length := by
      have := (List.getElem?_eq_some_iff.mp q).1
      rwa [List.length_set] at this
    rw [List.getElem?_set_self hi] at q
    cases q
    exact ⟨w, by rw [List.getElem?_set_self (by rw [← e.1]; exact hi)], r⟩
  · rw [List.getElem?_set_ne hj] at q ⊢
    exact e.2 j u q
end

section
variable {X : Cx} {W : WX} {ca : Ca} {pos : Pos}
theorem jss_nil : JSs X W ca [] nxS := ⟨_, pss_nil, fun σ H m env st D s e h => h.nx s e⟩
theorem jss_cons {s : Stmt} {rest : List Stmt} {f g : FS} (h1 : JS X W ca s f) (h2 : JSs X W ca rest g) : JSs X W ca (s :: rest) (seqS f g) := by
  obtain ⟨t, p, r⟩ := h1.ex
  obtain ⟨u, q, z⟩ := h2.ex
  refine ⟨_, pss_cons p q, fun σ H m env st D s e h => ?_⟩
  refine r σ H m env st _ s e ?_
  unfold seqS at h
  cases c : f env st with
  | nx e1 s1 =>
    rw [c] at h
    exact fun m1 σ1 H1 p1 k1 s2 e2 => z σ1 H1 m1 e1 s1 D s2 e2 (PostS.mono h p1 k1)
  | rt v s1 => rw [c] at h; exact h
  | bk e1 s1 => rw [c] at h; exact h
  | ct e1 s1 => rw [c] at h; exact h
  | er x e1 s1 => rw [c] at h; exact h
  | no => rw [c] at h; exact h
theorem jss_one {s : Stmt} {f : FS} (h1 : JS X W ca s f) : JSs X W ca [s] f := by
  obtain ⟨t, p, r⟩ := h1.ex
  exact ⟨_, pss_one p, r⟩
theorem js_pass : JS X W ca (.Pass pos) nxS := ⟨_, ps_pass, fun σ H m env st D s e h => h.nx s e⟩
theorem js_break : JS X W ca (.Break pos) bkS := ⟨_, ps_break, fun σ H m env st D s e h => h m σ H (List.prefix_refl _) Keep.refl s e⟩
theorem js_continue : JS X W ca (.Continue pos) ctS := ⟨_, ps_continue, fun σ H m env st D s e h => h m σ H (List.prefix_refl _) Keep.refl s e⟩
theorem js_doc {x j pos pos'} : JS X W ca (.Expr (.Constant (.str x) j pos) pos') nxS := ⟨_, ps_doc, fun σ H m env st D s e h => h.nx s e⟩
theorem js_expr {e : Expr} {f : FE} (he : JE X W ca e f) (hs : swapsWith e none pos.line X.env = pure false := by rfl) : JS X W ca (.Expr e pos) (dropS f) := by
  obtain ⟨t, p, r⟩ := he.ex
  refine ⟨_, ps_expr p hs, fun σ H m env st D s e h => ?_⟩
  exact r σ H m env st _ s e (Post.toS h e fun v st1 m1 w H1 p1 k1 s1 r1 h1 => h1.nx s1 (e.mono p1 k1))
theorem js_ret {e : Expr} {f : FE} (he : JE X W ca e f) : JS X W ca (.Return (some e) pos) (retS f) := by
  obtain ⟨t, p, r⟩ := he.ex
  refine ⟨_, ps_ret p, fun σ H m env st D s e h => ?_⟩
  exact r σ H m env st _ s e (Post.toS h e fun v st1 m1 w H1 p1 k1 s1 r1 h1 => h1 m1 w H1 (List.prefix_refl _) Keep.refl s1 r1)
theorem js_retN : JS X W ca (.Return none pos) retN := ⟨_, ps_retN, fun σ H m env st D s e h => h m .non H (List.prefix_refl _) Keep.refl s .non⟩
theorem js_if {c : Expr} {a b : List Stmt} {fc : FT} {f g : FS} (hc : JT X W ca c fc) (ha : JSs X W ca a f) (hb : JSs X W ca b g) : JS X W ca (.If c a b pos) (ifS fc f g) := by
  obtain ⟨tc, pc, rc⟩ := hc.ex
  obtain ⟨t, p, r⟩ := ha.ex
  obtain ⟨u, q, z⟩ := hb.ex
  refine ⟨_, ps_if pc p q, fun σ H m env st D s e h => ?_⟩
  refine rc σ H m env st _ s e (Post.toS h e fun k st1 m1 k' H1 p1 k1 s1 r1 h1 => ?_)
  have rk : k = k' := r1
  subst rk
  cases k with
  | true => exact r σ H1 m1 env st1 D s1 (e.mono p1 k1) h1
  | false => exact z σ H1 m1 env st1 D s1 (e.mono p1 k1) h1
theorem js_set {i : Nat} {x : Str} {e : Expr} {f : FE} {pos' : Pos} (hN : X.N.Nodup) (he : JE X W ca e f) (hi : X.N[i]? = some x := by rfl) (hx : Loc X.env.scope x := by first | exact Or.inl rfl | exact Or.inr rfl) (hs : swapsWith e (some (.Name x pos')) pos.line X.env = pure false := by rfl) (hf : X.fn x = true ∨ X.env.scope.names.lookup x = some .local := by first | exact .inl rfl | exact .inr rfl | assumption) :
    JS X W ca (.Assign [.Name x pos'] e pos) (setS i f) := by
  obtain ⟨t, p, r⟩ := he.ex
  refine ⟨_, ps_set hN hi hx p hs hf, fun σ H m env st D s e h => ?_⟩
  refine r σ H m env st _ s e (Post.toS h e fun v st1 m1 w H1 p1 k1 s1 r1 h1 => ?_)
  exact h1.nx s1 ((e.mono p1 k1).set r1 i)
theorem js_aug {i : Nat} {x : Str} {e : Expr} {f : FE} {op : Operator} {g : PV → PV → Store → O PV} {pos' : Pos} (hN : X.N.Nodup) (ho : OpF X ca (inplaceOp op) g) (he : JE X W ca e f) (hi : X.N[i]? = some x := by rfl) (hx : Loc X.env.scope x := by first | exact Or.inl rfl | exact Or.inr rfl) (hf : X.fn x = true ∨ X.env.scope.names.lookup x = some .local := by first | exact .inl rfl | exact .inr rfl | assumption) :
    JS X W ca (.AugAssign (.Name x pos') op e pos) (augS i g f) := by
  obtain ⟨t, p, r⟩ := he.ex
  obtain ⟨rr, po, ro⟩ := ho
  refine ⟨_, ps_aug (ti := rr) hN hi hx p (fun pins s σ H x y v u Q I rx ry q => po pins s σ H x y v u Q I rx ry q) hf, fun σ H m env st D s e h => ?_⟩
  unfold augS at h
  split at h
  · rename_i x hx
    obtain ⟨w, h1, h2⟩ := e.2 i x hx
    refine ⟨w, h1, ?_⟩
    refine r σ H m env st _ s e (Post.toS h e fun y st1 m1 y' H1 p1 k1 s1 r1 h3 => ?_)
    refine ro H1 m1 st1 x y w y' _ s1 (h2.mono p1 k1) r1 (Post.of (Post.toS h3 (e.mono p1 k1) fun z st2 m2 z' H2 p2 k2 s2 r2 h4 => ?_))
    exact h4.nx s2 ((e.mono (p1.trans p2) (k1.trans k2)).set r2 i)
  · exact h.elim

/-! ### targets -/
/-- sl: the slots that are written -/
structure JG' (X : Cx) (ca : Ca) (tg : Expr) (sl : List Nat) (g : FG) : Prop where
  ex : ∃ t, PG X tg t ∧ ∀ σ H m env v w env' Q, ER X.K ca H m env σ → VR X.K ca H m v w → g v env = some env' → (∀ σ', ER X.K ca H m env' σ' → (σ'.length = σ.length ∧ ∀ j, j ∉ sl → σ'[j]? = σ[j]?) → Q σ' H) → t w σ H Q
structure JGs' (X : Cx) (ca : Ca) (tgs : List Expr) (sl : List Nat) (g : List PV → Env → Option Env) : Prop where
  ex : ∃ t, PGs X tgs t ∧ ∀ σ H m env v w env' Q, ER X.K ca H m env σ → VRs X.K ca H m v w → g v env = some env' → (∀ σ', ER X.K ca H m env' σ' → (σ'.length = σ.length ∧ ∀ j, j ∉ sl → σ'[j]? = σ[j]?) → Q σ' H) → t w σ H Q
theorem jg_name {i : Nat} {x : Str} (hN : X.N.Nodup) (hi : X.N[i]? = some x := by rfl) (hx : Loc X.env.scope x := by first | exact Or.inl rfl | exact Or.inr rfl) (hf : X.fn x = true ∨ X.env.scope.names.lookup x = some .local := by first | exact .inl rfl | exact .inr rfl | assumption) :
    JG' X ca (.Name x pos) [i] (nameG i) :=
  ⟨_, pg_name hN hi hx hf, fun σ H m env v w env' Q e r hg q => by
    cases hg
    refine q _ (e.set r i) ⟨List.length_set, fun j hj => ?_⟩
    rw [List.getElem?_set_ne (fun z => hj (List.mem_singleton.mpr z.symm))]⟩
theorem jgs_nil : JGs' X ca [] [] nilG := ⟨_, pgs_nil, fun σ H m env v w env' Q e r hg q => by
  cases r with
  | nil => cases hg; exact ⟨rfl, q _ e ⟨rfl, fun _ _ => rfl⟩⟩
  | cons a b => cases hg⟩
theorem jgs_cons {e : Expr} {es : List Expr} {sl sl2 : List Nat} {g : FG} {h : List PV → Env → Option Env} (h1 : JG' X ca e sl g) (h2 : JGs' X ca es sl2 h)
    (hs : (assignEach (e :: es) X.env).map (·.2) = assign e X.env :: (assignEach es X.env).map (·.2) := by rfl) : JGs' X ca (e :: es) (sl ++ sl2) (consG g h) := by
  obtain ⟨t, p, r⟩ := h1.ex
  obtain ⟨u, q, z⟩ := h2.ex
  refine ⟨_, pgs_cons p q hs, fun σ H m env v w env' Q e rv hg k => ?_⟩
  cases rv with
  | nil => cases hg
  | cons ra rb =>
    rename_i x v xs vs
    unfold consG at hg
    simp only at hg
    cases c : g x env with
    | none => rw [c] at hg; cases hg
    | some e1 =>
      rw [c] at hg
      refine ⟨v, vs, rfl, r σ H m env x v e1 _ e ra c fun σ1 e2 n1 => ?_⟩
      refine z σ1 H m e1 xs vs env' Q e2 rb hg fun σ2 e3 n2 => k σ2 e3 ⟨n2.1.trans n1.1, fun j hj => ?_⟩
      rw [List.mem_append, not_or] at hj
      rw [n2.2 j hj.2, n1.2 j hj.1]
theorem jg_tup {es : List Expr} {k : Nat} {sl : List Nat} {h : List PV → Env → Option Env} {n : Nat} (hc : X.calm = true) (hg : JGs' X ca es sl h)
    (hn : (assignEach es X.env).length = n := by rfl) (hst : (assignEach es X.env).findIdx? (·.1) = none := by rfl) : JG' X ca (.Tuple es k pos) sl (tupG n h) := by
  obtain ⟨t, p, r⟩ := hg.ex
  refine ⟨_, pg_tup hc p hn hst, fun σ H m env v w env' Q e rv hh q => ?_⟩
  cases rv with
  | tup hs rs =>
    rename_i xs a vs
    simp only [tupG] at hh
    split at hh
    · rename_i hl
      exact ⟨a, vs, rfl, hs, by rw [← rs.length]; exact hl, r σ H m env xs vs env' Q e rs hh q⟩
    · cases hh
  | _ => cases hh
theorem js_asg {tg e : Expr} {sl : List Nat} {f : FE} {g : FG} (he : JE X W ca e f) (hg : JG' X ca tg sl g) (hs : swapsWithSole [tg] e pos.line X.env = pure false := by rfl) (hw : swappedStores [tg] e X.env = pure none := by rfl)
    (h1 : (assignEach [tg] X.env).map (·.2) = [assign tg X.env] := by rfl) : JS X W ca (.Assign [tg] e pos) (asgS g f) := by
  obtain ⟨t, p, r⟩ := he.ex
  obtain ⟨u, q, z⟩ := hg.ex
  refine ⟨_, ps_asg p q hs hw h1, fun σ H m env st D s e h => ?_⟩
  refine r σ H m env st _ s e (Post.toS h e fun v st1 m1 w H1 p1 k1 s1 r1 h2 => ?_)
  cases c : g v env with
  | none => rw [c] at h2; exact h2.elim
  | some e1 =>
    rw [c] at h2
    exact z σ H1 m1 env v w e1 _ (e.mono p1 k1) r1 c fun σ' e' _ => h2.nx s1 e'
/-- a store by values -/
def SetF (X : Cx) (ca : Ca) (g : PV → PV → PV → Store → Option Store) : Prop :=
  ∃ t, PSet X t ∧ ∀ H m st o i v o' i' v' st' Q, SR X.K ca H m st → VR X.K ca H m o o' → VR X.K ca H m i i' → VR X.K ca H m v v' → g o i v st = some st' → (∀ H', Keep X.K H H' → SR X.K ca H' m st' → Q H') → t o' i' v' H Q
theorem js_sub {o i e : Expr} {g : PV → PV → PV → Store → Option Store} {fv fo fi : FE} {pos' : Pos} (hs : SetF X ca g) (he : JE X W ca e fv) (ho : JE X W ca o fo) (hi : JE X W ca i fi)
    (ha : ∀ v, assign (.Subscript o i pos') X.env v = (do
      let ov ← holding [v] (eval o X.env)
      let iv ← holding [v, ov] (eval i X.env)
      standAt pos'
      holding [v, ov, iv] (setItem ov iv v)
      release [v, ov, iv] []) := by intro _; rfl)
    (hs1 : swapsWithSole [.Subscript o i pos'] e pos.line X.env = pure false := by rfl) (hw : swappedStores [.Subscript o i pos'] e X.env = pure none := by rfl)
    (h1 : (assignEach [.Subscript o i pos'] X.env).map (·.2) = [assign (.Subscript o i pos') X.env] := by rfl) : JS X W ca (.Assign [.Subscript o i pos'] e pos) (subS g fv fo fi) := by
  obtain ⟨t, p, r⟩ := he.ex
  obtain ⟨to, po, ro⟩ := ho.ex
  obtain ⟨ti, pi, ri⟩ := hi.ex
  obtain ⟨ts, pS, rs⟩ := hs
  refine ⟨_, ps_asg p (pg_sub po pi pS ha) hs1 hw h1, fun σ H m env st D s e h => ?_⟩
  refine r σ H m env st _ s e (Post.toS h e fun v st1 m1 v' H1 p1 k1 s1 r1 h2 => ?_)
  refine ro σ H1 m1 env st1 _ s1 (e.mono p1 k1) (Post.toS h2 (e.mono p1 k1) fun ov st2 m2 o' H2 p2 k2 s2 r2 h3 => ?_)
  have e2 := (e.mono p1 k1).mono p2 k2
  refine ri σ H2 m2 env st2 _ s2 e2 (Post.toS h3 e2 fun iv st3 m3 i' H3 p3 k3 s3 r3 h4 => ?_)
  cases c : g ov iv v st3 with
  | none => rw [c] at h4; exact h4.elim
  | some st4 =>
    rw [c] at h4
    refine rs H3 m3 st3 ov iv v o' i' v' st4 _ s3 (r2.mono p3 k3) r3 (r1.mono (p2.trans p3) (k2.trans k3)) c fun H4 k4 s4 => ?_
    exact h4 m3 σ H4 (List.prefix_refl _) k4 s4 ((e2.mono p3 k3).mono (List.prefix_refl _) k4)

/-! ### what is walked -/
structure Wk where
  its : List PV
  gd : List (Nat × PO)
abbrev FI := Env → Store → R Wk
def GdOk (gd : List (Nat × PO)) (st : Store) : Prop := ∀ p ∈ gd, st[p.1]? = some p.2
def ItR (K : PySem.W.Frag) (ca : Ca) (H : Hp) (m : List Addr) (k : Wk) (J : It) : Prop := ∀ (i : Nat) m' H' st', m <+: m' → Keep K H H' → SR K ca H' m' st' → GdOk k.gd st' →
  (∀ v, k.its[i]? = some v → J.go i H' ∧ ∀ x H'', J.yld i H' x H'' → Keep K H' H'' ∧ SR K ca H'' m' st' ∧ VR K ca H'' m' v x) ∧ (k.its.length ≤ i → J.stop i H')
structure JI (X : Cx) (W : WX) (ca : Ca) (tg iter : Expr) (f : FI) : Prop where
  ex : ∃ t, PI X tg iter t ∧ ∀ σ H m env st Q, SR X.K ca H m st → ER X.K ca H m env σ → Post X.K ca (ItR X.K ca) (EW W ca σ) m H Q (f env st) → t σ H Q
open Classical in
def forL (gd : List (Nat × PO)) (g : FG) (b : FS) : List PV → FS
  | [] => fun e st => if GdOk gd st then .nx e st else .no
  | x :: xs => fun e st => if GdOk gd st then
      (match g x e with
        | none => .no
        | some e1 => match b e1 st with
          | .nx e2 s2 => forL gd g b xs e2 s2
          | .ct e2 s2 => forL gd g b xs e2 s2
          | .bk e2 s2 => .nx e2 s2
          | r => r)
      else .no
def forS (fi : FI) (g : FG) (b : FS) : FS := fun e st => (fi e st).toS e fun k s1 => forL k.gd g b k.its e s1
theorem js_for {iter tg : Expr} {body : List Stmt} {sl : List Nat} {fi : FI} {g : FG} {b : FS} (hp : PassesOwn (model X.prog X.w) X.A X.env X.xe) (hc : X.calm = true) (hi : JI X W ca tg iter fi) (hg : JG' X ca tg sl g) (hb : JSs X W ca body b) (hs : ∀ x, foldedSetIterable iter X.env x = pure x := by intro _; rfl) :
    JS X W ca (.For tg iter body [] pos) (forS fi g b) := by
  obtain ⟨ti, pi, ri⟩ := hi.ex
  obtain ⟨tg', pg, rg⟩ := hg.ex
  obtain ⟨tb, pb, rb⟩ := hb.ex
  refine ⟨_, ps_for hp hc pi pg pb hs, fun σ H m env st D s e h => ?_⟩
  refine ri σ H m env st _ s e (Post.toS h e fun k st1 m1 J H1 p1 k1 s1 r1 h1 => ?_)
  refine ⟨fun i n σ' H' => ∃ m' env' st', m1 <+: m' ∧ Keep X.K H1 H' ∧ SR X.K ca H' m' st' ∧ ER X.K ca H' m' env' σ' ∧ i + n = k.its.length ∧ PostS X.K ca (EWs W ca) m' H' D (forL k.gd g b (k.its.drop i) env' st'),
    ⟨k.its.length, m1, env, st1, List.prefix_refl _, Keep.refl, s1, e.mono p1 k1, Nat.zero_add _, h1⟩, ?_⟩
  rintro i n σ' H' ⟨m', env', st', pm, km, s', e', en, h'⟩
  by_cases hlt : i < k.its.length
  · obtain ⟨v, hv⟩ : ∃ v, k.its[i]? = some v := ⟨_, List.getElem?_eq_getElem hlt⟩
    have hd : k.its.drop i = v :: k.its.drop (i + 1) := by
      have e1 := List.drop_eq_getElem_cons hlt
      rw [List.getElem?_eq_getElem hlt] at hv
      cases hv
      exact e1
    rw [hd] at h'
    unfold forL at h'
    split at h'
    · rename_i hgd
      obtain ⟨hgo, hy⟩ := (r1 i m' H' st' pm km s' hgd).1 v hv
      refine .inr ⟨hgo, fun σ2 H2 => ∃ m' env' st', m1 <+: m' ∧ Keep X.K H1 H2 ∧ SR X.K ca H2 m' st' ∧ ER X.K ca H2 m' env' σ2 ∧ (i + 1) + (n - 1) = k.its.length ∧ PostS X.K ca (EWs W ca) m' H2 D (forL k.gd g b (k.its.drop (i + 1)) env' st'), fun σ2 H2 hN => ⟨n - 1, by omega, hN⟩, fun x H2 hyl => ?_⟩
      obtain ⟨k2, s2, r2⟩ := hy x H2 hyl
      cases c : g v env' with
      | none => rw [c] at h'; exact h'.elim
      | some e1 =>
        rw [c] at h'
        refine rg σ' H2 m' env' v x e1 _ (e'.mono (List.prefix_refl _) k2) r2 c fun σ3 e3 _ => ?_
        refine rb σ3 H2 m' e1 st' _ s2 e3 ?_
        have h3 := PostS.mono h' (List.prefix_refl _) k2
        simp only at h3
        cases q : b e1 st' with
        | nx e4 s4 =>
          rw [q] at h3
          exact fun m5 σ5 H5 p5 k5 s5 e5 => ⟨m5, e4, s4, pm.trans p5, (km.trans k2).trans k5, s5, e5, by omega, PostS.mono h3 p5 k5⟩
        | ct e4 s4 =>
          rw [q] at h3
          exact fun m5 σ5 H5 p5 k5 s5 e5 => ⟨m5, e4, s4, pm.trans p5, (km.trans k2).trans k5, s5, e5, by omega, PostS.mono h3 p5 k5⟩
        | bk e4 s4 => rw [q] at h3; exact h3
        | rt v4 s4 => rw [q] at h3; exact h3
        | er x4 e4 s4 => rw [q] at h3; exact h3
        | no => rw [q] at h3; exact h3
    · exact h'.elim
  · rw [List.drop_eq_nil_of_le (by omega)] at h'
    unfold forL at h'
    split at h'
    · rename_i hgd
      exact .inl ⟨(r1 i m' H' st' pm km s' hgd).2 (by omega), h'.nx s' e'⟩
    · exact h'.elim

/-! ### while -/
def whL (c : FT) (b : FS) : Nat → FS
  | 0 => fun _ _ => .no
  | n + 1 => fun e st => (c e st).toS e fun k s1 => if k = true then
      (match b e s1 with
        | .nx e2 s2 => whL c b n e2 s2
        | .ct e2 s2 => whL c b n e2 s2
        | .bk e2 s2 => .nx e2 s2
        | r => r)
      else .nx e s1
@[irreducible] def FUEL : Nat := 1000000
theorem FUEL_eq : FUEL = 1000000 := by unfold FUEL; rfl
def whS (c : FT) (b : FS) : FS := whL c b FUEL
theorem js_while {c : Expr} {body : List Stmt} {fc : FT} {b : FS} (hp : PassesOwn (model X.prog X.w) X.A X.env X.xe) (hc : JT X W ca c fc) (hb : JSs X W ca body b) : JS X W ca (.While c body [] pos) (whS fc b) := by
  obtain ⟨tc, pc, rc⟩ := hc.ex
  obtain ⟨tb, pb, rb⟩ := hb.ex
  refine ⟨_, ps_while hp pc pb, fun σ H m env st D s e h => ?_⟩
  refine ⟨fun n σ' H' => ∃ m' env' st', SR X.K ca H' m' st' ∧ ER X.K ca H' m' env' σ' ∧ PostS X.K ca (EWs W ca) m' H' D (whL fc b n env' st'), ⟨FUEL, m, env, st, s, e, h⟩, ?_⟩
  rintro n σ' H' ⟨m', env', st', s', e', h'⟩
  cases n with
  | zero => exact h'.elim
  | succ n =>
    unfold whL at h'
    refine rc σ' H' m' env' st' _ s' e' (Post.toS h' e' fun k st1 m1 k' H1 p1 k1 s1 r1 h1 => ?_)
    have rk : k = k' := r1
    subst rk
    cases k with
    | false => exact h1.nx s1 (e'.mono p1 k1)
    | true =>
      rw [if_pos rfl] at h1 ⊢
      refine ⟨fun σ2 H2 => ∃ m' env' st', SR X.K ca H2 m' st' ∧ ER X.K ca H2 m' env' σ2 ∧ PostS X.K ca (EWs W ca) m' H2 D (whL fc b n env' st'), fun σ2 H2 hN => ⟨n, Nat.lt_succ_self _, hN⟩, ?_⟩
      refine rb σ' H1 m1 env' st1 _ s1 (e'.mono p1 k1) ?_
      cases q : b env' st1 with
      | nx e4 s4 =>
        rw [q] at h1
        exact fun m5 σ5 H5 p5 k5 s5 e5 => ⟨m5, e4, s4, s5, e5, PostS.mono h1 p5 k5⟩
      | ct e4 s4 =>
        rw [q] at h1
        exact fun m5 σ5 H5 p5 k5 s5 e5 => ⟨m5, e4, s4, s5, e5, PostS.mono h1 p5 k5⟩
      | bk e4 s4 => rw [q] at h1; exact h1
      | rt v4 s4 => rw [q] at h1; exact h1
      | er x4 e4 s4 => rw [q] at h1; exact h1
      | no => rw [q] at h1; exact h1
end
end
end FL
end
section
set_option linter.all false
set_option maxRecDepth 100000
namespace FL
open PySem PySem.Spec PyProof.Rows L2
noncomputable section

/-! ## comprehensions -/
def wipeE (e : Env) : List Nat → Env
  | [] => e
  | v :: vs => (wipeE e vs).set v none
theorem ER.wipe {K : PySem.W.Frag} {ca : Ca} {m : List Addr} {H : Hp} {e : Env} {σ : L2.St} (h : ER K ca H m e σ) : ∀ vs : List Nat, ER K ca H m (wipeE e vs) (wipe σ vs)
  | [] => h
  | v :: vs => by
    have ih := h.wipe vs
    unfold wipeE L2.wipe
    refine ⟨by rw [List.length_set, List.length_set, ih.1], fun j u q => ?_⟩
    by_cases hj : v = j
    · subst hj
      by_cases hv : v < (wipeE e vs).length
      · rw [List.getElem?_set_self hv] at q; cases q
      · rw [List.getElem?_eq_none (by simpa using hv)] at q; cases q
    · rw [List.getElem?_set_ne hj] at q ⊢
      exact ih.2 j u q
theorem wipe_at {σ : L2.St} {j : Nat} : ∀ {vs : List Nat}, (wipe σ vs)[j]? = if j ∈ vs then (if j < σ.length then some none else none) else σ[j]?
  | [] => by simp [wipe]
  | v :: vs => by
    unfold L2.wipe
    by_cases hj : v = j
    · subst hj
      rw [if_pos List.mem_cons_self]
      by_cases hv : v < σ.length
      · rw [if_pos hv, List.getElem?_set_self (by rw [wipe_length]; exact hv)]
      · rw [if_neg hv, List.getElem?_eq_none (by rw [List.length_set, wipe_length]; omega)]
    · rw [List.getElem?_set_ne hj, wipe_at (vs := vs)]
      have : (j ∈ v :: vs) ↔ j ∈ vs := by
        rw [List.mem_cons]
        exact ⟨fun q => q.resolve_left fun z => hj z.symm, .inr⟩
      simp only [this]
theorem wipe_same {σ τ : L2.St} {vs sl : List Nat} (hl : τ.length = σ.length) (hs : ∀ j ∈ sl, j ∈ vs) (h : ∀ j, j ∉ sl → τ[j]? = (wipe σ vs)[j]?) : wipe τ vs = wipe σ vs := by
  apply List.ext_getElem?
  intro j
  rw [wipe_at, wipe_at]
  by_cases hj : j ∈ vs
  · rw [if_pos hj, if_pos hj, hl]
  · rw [if_neg hj, if_neg hj, h j fun z => hj (hs j z), wipe_at, if_neg hj]
open Classical in
def lcL (gd : List (Nat × PO)) (g : FG) (ft : FT) (fe : FE) (n : Nat) (e0 : Env) : List PV → Store → O PV
  | [], st => if GdOk gd st then some (.ref n, st) else none
  | x :: xs, st => if GdOk gd st then
      (match g x e0 with
        | none => none
        | some e1 => match ft e1 st with
          | .ok true s1 => (match fe e1 s1 with
            | .ok v s2 => (match s2[n]? with
              | some (.lst acc) => if acc.length < sizeLine then lcL gd g ft fe n e0 xs (s2.set n (.lst (acc ++ [v]))) else none
              | _ => none)
            | _ => none)
          | .ok false s1 => lcL gd g ft fe n e0 xs s1
          | _ => none)
      else none
def yesT : FT := fun _ st => .ok true st
def lcF (fi : FI) (own : List Nat) (g : FG) (ft : FT) (fe : FE) : FE := fun e st => (fi e st).bind fun k s1 => R.of (lcL k.gd g ft fe s1.length (wipeE e own) k.its (s1 ++ [.lst []]))

section
variable {X : Cx} {W : WX} {ca : Ca} {pos : Pos}
abbrev W0 : WX := fun _ _ _ _ => False
/-- a clause's tests -/
structure JTs (X : Cx) (W : WX) (ca : Ca) (es : List Expr) (f : FT) : Prop where
  ex : ∃ t, PTs X es t ∧ ∀ σ H m env st Q, SR X.K ca H m st → ER X.K ca H m env σ → Post X.K ca rB (EW W ca σ) m H Q (f env st) → t σ H Q
theorem jts_nil : JTs X W ca [] yesT := ⟨_, pts_nil, fun σ H m env st Q s e h => h.ok s rfl⟩
theorem jts_one {c : Expr} {f : FT} (h : JT X W ca c f) : JTs X W ca [c] f := by
  obtain ⟨t, p, r⟩ := h.ex
  exact ⟨_, pts_one p, r⟩
/-- what a comprehension's reading asks, from what it does -/
theorem lc_ok {ti : TI} {tg : TG} {tt : TT} {te : TE} {fi : FI} {own sl : List Nat} {g : FG} {ft : FT} {fe : FE} (hsl : ∀ j ∈ sl, j ∈ own)
    (ri : ∀ σ H m env st Q, SR X.K ca H m st → ER X.K ca H m env σ → Post X.K ca (ItR X.K ca) (EW W ca σ) m H Q (fi env st) → ti σ H Q)
    (rg : ∀ σ H m env v w env' Q, ER X.K ca H m env σ → VR X.K ca H m v w → g v env = some env' → (∀ σ', ER X.K ca H m env' σ' → (σ'.length = σ.length ∧ ∀ j, j ∉ sl → σ'[j]? = σ[j]?) → Q σ' H) → tg w σ H Q)
    (rt : ∀ σ H m env st Q, SR X.K ca H m st → ER X.K ca H m env σ → Post X.K ca rB (EW W0 ca σ) m H Q (ft env st) → tt σ H Q)
    (re : ∀ σ H m env st Q, SR X.K ca H m st → ER X.K ca H m env σ → Post X.K ca (VR X.K ca) (EW W0 ca σ) m H Q (fe env st) → te σ H Q)
    {σ : L2.St} {H : Hp} {m : List Addr} {env : Env} {st : Store} {Q : VK} (s : SR X.K ca H m st) (e : ER X.K ca H m env σ) (h : Post X.K ca (VR X.K ca) (EW W ca σ) m H Q (lcF fi own g ft fe env st)) : tLc ti tg tt te own σ H Q := by
  refine ri σ H m env st _ s e (Post.bind h fun k st1 m1 J H1 p1 k1 s1 r1 h1 => ?_)
  intro D hD
  obtain ⟨pD, kD, sD, rD⟩ := upd_l (K := X.K) (ca := ca) (xs := []) (vs := []) s1 hD .nil
  refine ⟨fun i n H' => ∃ m' st', m1 ++ [D] <+: m' ∧ Keep X.K H1 H' ∧ SR X.K ca H' m' st' ∧ i + n = k.its.length ∧ Post0 X.K ca (VR X.K ca) m' H' Q (lcL k.gd g ft fe st1.length (wipeE env own) (k.its.drop i) st'),
    ⟨k.its.length, m1 ++ [D], st1 ++ [.lst []], List.prefix_refl _, kD, sD, Nat.zero_add _, Post0.mono h1.of pD kD⟩, ?_⟩
  rintro i n H' ⟨m', st', pm, km, s', en, h'⟩
  have pm1 : m1 <+: m' := pD.trans pm
  have hn : m'[st1.length]? = some D := pre_get pm (by rw [← s1.len, List.getElem?_append_right (Nat.le_refl _), Nat.sub_self]; rfl)
  by_cases hlt : i < k.its.length
  · obtain ⟨v, hv⟩ : ∃ v, k.its[i]? = some v := ⟨_, List.getElem?_eq_getElem hlt⟩
    have hd : k.its.drop i = v :: k.its.drop (i + 1) := by
      have e1 := List.drop_eq_getElem_cons hlt
      rw [List.getElem?_eq_getElem hlt] at hv
      cases hv
      exact e1
    rw [hd] at h'
    unfold lcL at h'
    split at h'
    · rename_i hgd
      obtain ⟨hgo, hy⟩ := (r1 i m' H' st' pm1 km s' hgd).1 v hv
      refine .inr ⟨hgo, fun H2 => ∃ m' st', m1 ++ [D] <+: m' ∧ Keep X.K H1 H2 ∧ SR X.K ca H2 m' st' ∧ (i + 1) + (n - 1) = k.its.length ∧ Post0 X.K ca (VR X.K ca) m' H2 Q (lcL k.gd g ft fe st1.length (wipeE env own) (k.its.drop (i + 1)) st'), fun H2 hN => ⟨n - 1, by omega, hN⟩, fun x H2 hyl => ?_⟩
      obtain ⟨k2, s2, r2⟩ := hy x H2 hyl
      have ew : ER X.K ca H2 m' (wipeE env own) (wipe σ own) := ((e.mono (p1.trans pm1) ((k1.trans km).trans k2))).wipe own
      cases c : g v (wipeE env own) with
      | none => rw [c] at h'; exact h'.elim
      | some e1 =>
        rw [c] at h'
        refine rg (wipe σ own) H2 m' (wipeE env own) v x e1 _ ew r2 c fun σ3 e3 n3 => ⟨wipe_same (n3.1.trans (wipe_length _ _)) hsl n3.2, ?_⟩
        have h3 := Post0.mono h' (List.prefix_refl _) k2
        simp only at h3
        refine rt σ3 H2 m' e1 st' _ s2 e3 ?_
        cases q : ft e1 st' with
        | er x4 s4 => rw [q] at h3; exact h3.elim
        | no => rw [q] at h3; exact h3.elim
        | ok kk s4 =>
          rw [q] at h3
          intro m5 b H5 p5 k5 s5 e5
          have eb : kk = b := e5
          subst eb
          cases kk with
          | false =>
            rw [if_neg Bool.false_ne_true]
            exact ⟨m5, s4, pm.trans p5, (km.trans k2).trans k5, s5, by omega, Post0.mono h3 p5 k5⟩
          | true =>
            rw [if_pos rfl]
            refine re σ3 H5 m5 e1 s4 _ s5 (e3.mono p5 k5) ?_
            simp only at h3
            cases q2 : fe e1 s4 with
            | er x6 s6 => rw [q2] at h3; exact h3.elim
            | no => rw [q2] at h3; exact h3.elim
            | ok y s6 =>
              rw [q2] at h3
              simp only at h3
              intro m7 y' H7 p7 k7 s7 r7
              split at h3
              · rename_i acc hacc
                obtain ⟨vs, ha, ra⟩ := s7.at hacc (pre_get (p5.trans p7) hn)
                split at h3
                · rename_i hz
                  refine ⟨vs, ha, by rw [← ra.length]; exact hz, ?_⟩
                  have kk := Keep.upd (K := X.K) (o := .lst (vs ++ [y'])) ha (fun _ z => nomatch z) (fun _ _ z => nomatch z)
                  have ss := s7.set (o := .lst (vs ++ [y'])) (ob := .lst (acc ++ [y])) (pre_get (p5.trans p7) hn) ha (fun _ z => nomatch z) (fun _ _ z => nomatch z) ⟨_, upd_same, (ra.mono (List.prefix_refl _) kk).append (.cons (r7.mono (List.prefix_refl _) kk) .nil)⟩
                  exact ⟨m7, _, (pm.trans p5).trans p7, (((km.trans k2).trans k5).trans k7).trans kk, ss, by omega, Post0.mono h3 (p5.trans p7) ((k5.trans k7).trans kk)⟩
                · exact h3.elim
              · exact h3.elim
    · exact h'.elim
  · rw [List.drop_eq_nil_of_le (by omega)] at h'
    unfold lcL at h'
    split at h'
    · rename_i hgd
      exact .inl ⟨(r1 i m' H' st' pm1 km s' hgd).2 (by omega), h' m' _ H' (List.prefix_refl _) Keep.refl s' (.ref hn)⟩
    · exact h'.elim
theorem je_lc {elt tg iter : Expr} {ifs : List Expr} {scope : Scope} {own : List (Str × Nat)} {sl : List Nat} {fi : FI} {g : FG} {ft : FT} {fe : FE} (hc : X.calm = true) (hN : X.N.Nodup) (hi : JI X W ca tg iter fi) (ok : BlkOk X.N X.env.scope scope own) (hsl : ∀ j ∈ sl, j ∈ own.map (·.2))
    (hg : ∀ (s : Shared) (H : Hp) (C : Addr) (cl : List (Str × Addr)) (fp : List Addr), JG' (X.blk s H scope (compEnvC scope cl C X.env) fp) ca tg sl g)
    (ht : ∀ (s : Shared) (H : Hp) (C : Addr) (cl : List (Str × Addr)) (fp : List Addr), JTs (X.blk s H scope (compEnvC scope cl C X.env) fp) W0 ca ifs ft)
    (he : ∀ (s : Shared) (H : Hp) (C : Addr) (cl : List (Str × Addr)) (fp : List Addr), JE (X.blk s H scope (compEnvC scope cl C X.env) fp) W0 ca elt fe) (hs : ∀ x, foldedSetIterable iter X.env x = pure x := by intro _; rfl) :
    JE X W ca (.ListComp elt [⟨tg, iter, ifs, 0⟩] scope pos) (lcF fi (own.map (·.2)) g ft fe) := by
  obtain ⟨ti, pi, ri⟩ := hi.ex
  refine ⟨_, pe_lc (g := fun v σ H Q => ∀ s0 H0 C cl fp, (hg s0 H0 C cl fp).ex.choose v σ H Q) (tt := fun σ H Q => ∀ s0 H0 C cl fp, (ht s0 H0 C cl fp).ex.choose σ H Q) (te := fun σ H Q => ∀ s0 H0 C cl fp, (he s0 H0 C cl fp).ex.choose σ H Q) hc hN pi ok
    (fun s0 H0 C cl fp => ⟨fun pins s σ H v u Q I r h => (hg s0 H0 C cl fp).ex.choose_spec.1.run pins s σ H v u Q I r (h s0 H0 C cl fp)⟩)
    (fun s0 H0 C cl fp => ⟨fun pins s σ H Q I h => (ht s0 H0 C cl fp).ex.choose_spec.1.run pins s σ H Q I (h s0 H0 C cl fp)⟩)
    (fun s0 H0 C cl fp => ⟨fun pins s σ H Q I h => (he s0 H0 C cl fp).ex.choose_spec.1.run pins s σ H Q I (h s0 H0 C cl fp)⟩) hs, fun σ H m env st Q s e h => ?_⟩
  refine lc_ok hsl ri (fun σ H m env v w env' Q er rv hh q s0 H0 C cl fp => (hg s0 H0 C cl fp).ex.choose_spec.2 σ H m env v w env' Q er rv hh q) (fun σ H m env st Q s e h s0 H0 C cl fp => (ht s0 H0 C cl fp).ex.choose_spec.2 σ H m env st Q s e h)
    (fun σ H m env st Q s e h s0 H0 C cl fp => (he s0 H0 C cl fp).ex.choose_spec.2 σ H m env st Q s e h) s e h
theorem js_lc {i : Nat} {y : Str} {py : Pos} {elt tg iter : Expr} {ifs : List Expr} {scope : Scope} {own : List (Str × Nat)} {sl : List Nat} {spos : Pos} {fi : FI} {g : FG} {ft : FT} {fe : FE} (hc : X.calm = true) (hN : X.N.Nodup) (hy : X.N[i]? = some y) (hyl : X.env.scope.names.lookup y = some .local)
    (hsw : swapsWith (.ListComp elt [⟨tg, iter, ifs, 0⟩] scope pos) (some (.Name y py)) spos.line X.env = pure true) (hi : JI X W ca tg iter fi) (ok : BlkOk X.N X.env.scope scope own) (hsl : ∀ j ∈ sl, j ∈ own.map (·.2))
    (hg : ∀ (s : Shared) (H : Hp) (C : Addr) (cl : List (Str × Addr)) (fp : List Addr), JG' (X.blk s H scope (compEnvC scope cl C X.env) fp) ca tg sl g)
    (ht : ∀ (s : Shared) (H : Hp) (C : Addr) (cl : List (Str × Addr)) (fp : List Addr), JTs (X.blk s H scope (compEnvC scope cl C X.env) fp) W0 ca ifs ft)
    (he : ∀ (s : Shared) (H : Hp) (C : Addr) (cl : List (Str × Addr)) (fp : List Addr), JE (X.blk s H scope (compEnvC scope cl C X.env) fp) W0 ca elt fe) (hs : ∀ x, foldedSetIterable iter X.env x = pure x := by intro _; rfl) :
    JS X W ca (.Assign [.Name y py] (.ListComp elt [⟨tg, iter, ifs, 0⟩] scope pos) spos) (setS i (lcF fi (own.map (·.2)) g ft fe)) := by
  obtain ⟨ti, pi, ri⟩ := hi.ex
  refine ⟨_, ps_setLc (g := fun v σ H Q => ∀ s0 H0 C cl fp, (hg s0 H0 C cl fp).ex.choose v σ H Q) (tt := fun σ H Q => ∀ s0 H0 C cl fp, (ht s0 H0 C cl fp).ex.choose σ H Q) (te := fun σ H Q => ∀ s0 H0 C cl fp, (he s0 H0 C cl fp).ex.choose σ H Q) hc hN hy hyl hsw pi ok
    (fun s0 H0 C cl fp => ⟨fun pins s σ H v u Q I r h => (hg s0 H0 C cl fp).ex.choose_spec.1.run pins s σ H v u Q I r (h s0 H0 C cl fp)⟩)
    (fun s0 H0 C cl fp => ⟨fun pins s σ H Q I h => (ht s0 H0 C cl fp).ex.choose_spec.1.run pins s σ H Q I (h s0 H0 C cl fp)⟩)
    (fun s0 H0 C cl fp => ⟨fun pins s σ H Q I h => (he s0 H0 C cl fp).ex.choose_spec.1.run pins s σ H Q I (h s0 H0 C cl fp)⟩) hs, fun σ H m env st D s e h => ?_⟩
  refine lc_ok (W := W) hsl ri (fun σ H m env v w env' Q er rv hh q s0 H0 C cl fp => (hg s0 H0 C cl fp).ex.choose_spec.2 σ H m env v w env' Q er rv hh q) (fun σ H m env st Q s e h s0 H0 C cl fp => (ht s0 H0 C cl fp).ex.choose_spec.2 σ H m env st Q s e h)
    (fun σ H m env st Q s e h s0 H0 C cl fp => (he s0 H0 C cl fp).ex.choose_spec.2 σ H m env st Q s e h) s e ?_
  exact Post.toS h e fun v st1 m1 w H1 p1 k1 s1 r1 h1 => h1.nx s1 ((e.mono p1 k1).set r1 i)
end

/-! ## a def's end: what it made and nobody holds is forgotten -/
mutual
def refsOk (n : Nat) : PV → Bool
  | .ref k => decide (k < n)
  | .tup xs => refsOks n xs
  | .frz xs => refsOks n xs
  | _ => true
def refsOks (n : Nat) : List PV → Bool
  | [] => true
  | x :: xs => refsOk n x && refsOks n xs
end
def objOk (n : Nat) : PO → Bool
  | .lst xs => refsOks n xs
  | .dK kvs => refsOks n (kvs.map (·.2))
  | .dN kvs => refsOks n (kvs.map (·.2))
  | .ins _ fs => refsOks n (fs.map (·.2))
/-- what stood ahead stands as it was, or holds nothing that was made since -/
def preOk (st0 st : Store) : Prop := ∀ k, k < st0.length → st[k]? = st0[k]? ∨ ∃ o, st[k]? = some o ∧ objOk st0.length o = true
open Classical in
def gc (st0 : Store) (v : PV) (st : Store) : R PV :=
  if st0.length ≤ st.length ∧ preOk st0 st then
    if refsOk st0.length v = true then .ok v (st.take st0.length)
    else match v with
      | .ref r => (match st[r]? with
        | some o => if objOk st0.length o = true ∧ st0.length ≤ r then .ok (.ref st0.length) (st.take st0.length ++ [o]) else .ok v st
        | none => .no)
      | _ => .ok v st
  else .ok v st
open Classical in
def gcx (st0 : Store) (x : Ex) (st : Store) : R PV :=
  if st0.length ≤ st.length ∧ preOk st0 st ∧ (∀ p, x.val = some p → refsOk st0.length p.2 = true) then .er x (st.take st0.length) else .er x st
def runFn (n : Nat) (body : FS) : Fn := fun args st => match body (args.map some ++ List.replicate (n - args.length) none) st with
  | .nx _ s => gc st .non s
  | .rt v s => gc st v s
  | .er x _ s => gcx st x s
  | _ => .no
section
variable {K : PySem.W.Frag} {ca : Ca} {m m' : List Addr} {H H' : Hp}
mutual
theorem VR.cutB (n : Nat) (hn : m.length = n) (p : m <+: m') : ∀ {x : PV} {v : V}, VR K ca H' m' x v → refsOk n x = true → VR K ca H' m x v
  | _, _, .non, _ => .non
  | _, _, .bl b, _ => .bl b
  | _, _, .int i, _ => .int i
  | _, _, .str x, _ => .str x
  | _, _, .ty n, _ => .ty n
  | _, _, .cls n, _ => .cls n
  | _, _, .exc h, _ => .exc h
  | _, _, .ref h, e => .ref (by
      simp only [refsOk, decide_eq_true_eq] at e
      obtain ⟨l, rfl⟩ := p
      rw [List.getElem?_append_left (by omega)] at h
      exact h)
  | _, _, .tup h r, e => .tup h (VRs.cutB n hn p r (by simpa only [refsOk] using e))
  | _, _, .frz h r, e => .frz h (VRs.cutB n hn p r (by simpa only [refsOk] using e))
theorem VRs.cutB (n : Nat) (hn : m.length = n) (p : m <+: m') : ∀ {xs : List PV} {vs : List V}, VRs K ca H' m' xs vs → refsOks n xs = true → VRs K ca H' m xs vs
  | _, _, .nil, _ => .nil
  | _, _, .cons h r, e => by
    simp only [refsOks, Bool.and_eq_true] at e
    exact .cons (VR.cutB n hn p h e.1) (VRs.cutB n hn p r e.2)
end
mutual
theorem VR.refs (n : Nat) (hn : m.length = n) : ∀ {x : PV} {v : V}, VR K ca H m x v → refsOk n x = true
  | _, _, .non => rfl
  | _, _, .bl b => rfl
  | _, _, .int i => rfl
  | _, _, .str x => rfl
  | _, _, .ty n => rfl
  | _, _, .cls n => rfl
  | _, _, .exc _ => rfl
  | _, _, .ref h => by
      simp only [refsOk, decide_eq_true_eq]
      have := (List.getElem?_eq_some_iff.mp h).1
      omega
  | _, _, .tup h r => by simpa only [refsOk] using VRs.refs n hn r
  | _, _, .frz h r => by simpa only [refsOk] using VRs.refs n hn r
theorem VRs.refs (n : Nat) (hn : m.length = n) : ∀ {xs : List PV} {vs : List V}, VRs K ca H m xs vs → refsOks n xs = true
  | _, _, .nil => rfl
  | _, _, .cons h r => by simp only [refsOks, Bool.and_eq_true]; exact ⟨VR.refs n hn h, VRs.refs n hn r⟩
end
theorem KR.cutB {κ : Type} (n : Nat) (hn : m.length = n) (p : m <+: m') {a : List (κ × PV)} {b : List (κ × V)} (h : KR K ca H' m' a b) (e : refsOks n (a.map (·.2)) = true) : KR K ca H' m a b := by
  induction h with
  | nil => exact .nil
  | cons r t ih =>
    simp only [List.map_cons, refsOks, Bool.and_eq_true] at e
    exact .cons ⟨r.1, r.2.cutB n hn p e.1⟩ (ih e.2)
theorem KR.refs {κ : Type} (n : Nat) (hn : m.length = n) {a : List (κ × PV)} {b : List (κ × V)} (h : KR K ca H m a b) : refsOks n (a.map (·.2)) = true := by
  induction h with
  | nil => rfl
  | cons r t ih =>
    simp only [List.map_cons, refsOks, Bool.and_eq_true]
    exact ⟨r.2.refs n hn, ih⟩
theorem DR.cutB (n : Nat) (hn : m.length = n) (p : m <+: m') {a : List (NestedKey × PV)} {b : List (NestedKey × Addr × V)} (h : DR K ca H' m' a b) (e : refsOks n (a.map (·.2)) = true) : DR K ca H' m a b := by
  unfold DR at h ⊢
  induction h with
  | nil => exact .nil
  | cons r t ih =>
    simp only [List.map_cons, refsOks, Bool.and_eq_true] at e
    exact .cons ⟨r.1, r.2.1, r.2.2.cutB n hn p e.1⟩ (ih e.2)
theorem DR.refs (n : Nat) (hn : m.length = n) {a : List (NestedKey × PV)} {b : List (NestedKey × Addr × V)} (h : DR K ca H m a b) : refsOks n (a.map (·.2)) = true := by
  unfold DR at h
  induction h with
  | nil => rfl
  | cons r t ih =>
    simp only [List.map_cons, refsOks, Bool.and_eq_true]
    exact ⟨r.2.2.refs n hn, ih⟩
theorem OR.cutB (n : Nat) (hn : m.length = n) (p : m <+: m') {a : Addr} {o : PO} (h : OR K ca H' m' a o) (e : objOk n o = true) : OR K ca H' m a o := by
  cases o with
  | lst xs => obtain ⟨vs, q, r⟩ := h; exact ⟨vs, q, r.cutB n hn p e⟩
  | dK kvs => obtain ⟨vs, q, r⟩ := h; exact ⟨vs, q, r.cutB n hn p e⟩
  | dN kvs => obtain ⟨vs, q, r⟩ := h; exact ⟨vs, q, r.cutB n hn p e⟩
  | ins c fs => obtain ⟨dx, vs, q, r⟩ := h; exact ⟨dx, vs, q, r.cutB n hn p e⟩
theorem OR.refs (n : Nat) (hn : m.length = n) {a : Addr} {o : PO} (h : OR K ca H m a o) : objOk n o = true := by
  cases o with
  | lst xs => obtain ⟨vs, q, r⟩ := h; exact r.refs n hn
  | dK kvs => obtain ⟨vs, q, r⟩ := h; exact r.refs n hn
  | dN kvs => obtain ⟨vs, q, r⟩ := h; exact r.refs n hn
  | ins c fs => obtain ⟨dx, vs, q, r⟩ := h; exact r.refs n hn
/-- the store cut back -/
theorem SR.cut {st0 st : Store} (s0 : SR K ca H m st0) (s : SR K ca H' m' st) (p : m <+: m') (h : preOk st0 st) : SR K ca H' m (st.take st0.length) := by
  have hl : m.length ≤ m'.length := p.length_le
  refine ⟨by rw [List.length_take, ← s.len, ← s0.len]; omega, s.nd.sublist p.sublist, fun n a o ha ho => ?_⟩
  have hn : n < m.length := (List.getElem?_eq_some_iff.mp ha).1
  rw [List.getElem?_take_of_lt (by rw [← s0.len]; exact hn)] at ho
  have r := s.ob n a o (pre_get p ha) ho
  refine r.cutB _ rfl p ?_
  rcases h n (by rw [← s0.len]; exact hn) with q | ⟨o', q, z⟩
  · rw [ho] at q
    exact (s0.ob n a o ha q.symm).refs _ rfl
  · rw [ho] at q
    cases q
    rw [s0.len]
    exact z
theorem Post.gc {E : Ex → Option Addr → Hp → Prop} {Q : VK} {st0 st : Store} {v : PV} (s0 : SR K ca H m st0) (h : Post K ca (VR K ca) E m H Q (gc st0 v st)) :
    ∀ m' w H', m <+: m' → Keep K H H' → SR K ca H' m' st → VR K ca H' m' v w → Q w H' := by
  intro m' w H' p k s r
  unfold FL.gc at h
  split at h
  · rename_i hp
    split at h
    · rename_i hr
      exact h m w H' (List.prefix_refl _) k (s0.cut s p hp.2) (r.cutB _ s0.len p hr)
    · split at h
      · rename_i rr hr
        split at h
        · rename_i o ho
          split at h
          · rename_i hob
            cases r with
            | ref ha =>
              rename_i a
              have sc := s0.cut s p hp.2
              have lm : (st.take st0.length).length = m.length := by rw [sc.len]
              have na : a ∉ m := fun hm => by
                obtain ⟨i, hi, e⟩ := List.getElem_of_mem hm
                have e1 : m'[i]? = some a := pre_get p (by rw [List.getElem?_eq_getElem hi, e])
                obtain ⟨l1, z1⟩ := List.getElem?_eq_some_iff.mp e1
                obtain ⟨l2, z2⟩ := List.getElem?_eq_some_iff.mp ha
                have := (List.getElem_inj s.nd).mp (z1.trans z2.symm)
                have := hob.2
                rw [← s0.len] at this
                omega
              refine h (m ++ [a]) _ H' (List.prefix_append _ _) k ?_ (.ref (by rw [← s0.len, List.getElem?_append_right (Nat.le_refl _), Nat.sub_self]; rfl))
              refine ⟨by rw [List.length_append, List.length_append, lm] <;> rfl, ?_, fun n b u hb hu => ?_⟩
              · rw [List.nodup_append]
                refine ⟨sc.nd, List.nodup_cons.mpr ⟨List.not_mem_nil, List.nodup_nil⟩, fun x hx y hy => ?_⟩
                obtain rfl := List.mem_singleton.mp hy
                exact fun z => na (z ▸ hx)
              · by_cases hn : n < m.length
                · rw [List.getElem?_append_left hn] at hb
                  rw [List.getElem?_append_left (by rw [lm]; exact hn)] at hu
                  exact (sc.ob n b u hb hu).mono (List.prefix_append _ _) Keep.refl rfl
                · have e : n = m.length := by
                    have := (List.getElem?_eq_some_iff.mp hb).1
                    rw [List.length_append, List.length_singleton] at this
                    omega
                  subst e
                  rw [List.getElem?_append_right (Nat.le_refl _), Nat.sub_self] at hb
                  rw [← lm, List.getElem?_append_right (Nat.le_refl _), Nat.sub_self] at hu
                  cases hb
                  cases hu
                  exact ((s.at ho ha).cutB _ s0.len p hob.1).mono (List.prefix_append _ _) Keep.refl rfl
          · exact h m' w H' p k s r
        · exact h.elim
      · exact h m' w H' p k s r
  · exact h m' w H' p k s r
theorem Post.gcx {E : Ex → Option Addr → Hp → Prop} {Q : VK} {st0 st : Store} {x : Ex} (s0 : SR K ca H m st0) (h : Post K ca (VR K ca) E m H Q (gcx st0 x st)) :
    ∀ m' d H', m <+: m' → Keep K H H' → SR K ca H' m' st → XR K ca H' m' x d → E x d H' := by
  intro m' d H' p k s r
  unfold FL.gcx at h
  split at h
  · rename_i hp
    refine h m d H' (List.prefix_refl _) k (s0.cut s p hp.2.1) ?_
    obtain ⟨c, val⟩ := x
    cases val with
    | none => exact r
    | some q =>
      obtain ⟨a, w, e1, e2, e3⟩ := r
      exact ⟨a, w, e1, e2, e3.cutB _ s0.len p (hp.2.2 _ rfl)⟩
  · exact h m' d H' p k s r
end

/-! ## a def by its body -/
section
variable {P : Program} {w : World} {K : PySem.W.Frag} {mg : Str → Option Value} {base : Heap} {ca : Ca}
theorem er_start {H : Hp} {m : List Addr} {N : List Str} {xs : List PV} {vs : List V} (r : VRs K ca H m xs vs) : ER K ca H m (xs.map some ++ List.replicate (N.length - xs.length) none) (L2.start N vs) := by
  unfold L2.start
  refine ⟨by rw [List.length_append, List.length_append, List.length_map, List.length_map, List.length_replicate, List.length_replicate, r.length], fun i v h => ?_⟩
  by_cases hi : i < xs.length
  · rw [List.getElem?_append_left (by simpa using hi), List.getElem?_map] at h
    cases q : xs[i]? with
    | none => rw [q] at h; cases h
    | some x =>
      rw [q] at h
      cases h
      obtain ⟨w, h1, h2⟩ := r.get q
      refine ⟨w, ?_, h2⟩
      rw [List.getElem?_append_left (by rw [List.length_map, ← r.length]; exact hi), List.getElem?_map, h1]
      rfl
  · rw [List.getElem?_append_right (by simpa using hi), List.getElem?_replicate] at h
    split at h <;> cases h
/-- THE RULE of a def -/
theorem cal_mk {x qual : Str} {st : Stmt} {f : Addr} {fd : FuncData} {N ps : List Str} {k n : Nat} {body : FS} (F : L2.Fun K x qual st f fd) (S : FnScope N ps (defScope st)) (hn : N.length = n)
    (hbody : ∀ (cdv : Value) (A : Around) (outer : List PySem.Env) (s : Shared) (H : Hp) (E : XK), Room k (A.deeper (envOfC qual (defScope st) s.heap.objs.size f cdv)) →
      Takes (cxOf (L2.CX P w) P w K mg base N qual (defScope st) f cdv A outer s H E) (fun cls d _ H => E cls d H) →
      PassesOwn (model P w) (cxOf (L2.CX P w) P w K mg base N qual (defScope st) f cdv A outer s H E).A (cxOf (L2.CX P w) P w K mg base N qual (defScope st) f cdv A outer s H E).env (cxOf (L2.CX P w) P w K mg base N qual (defScope st) f cdv A outer s H E).xe →
      JSs (cxOf (L2.CX P w) P w K mg base N qual (defScope st) f cdv A outer s H E) (fun cls d _ H => E cls d H) ca (defBody st) body) :
    Cal P w K mg base ca (k + 1) f fd ps (runFn n body) := by
  subst hn
  refine ⟨Fun.okX F S (fun vs H Q E h => ?_) (fun cdv A outer s H vs Q E hr h => ?_), F.kp⟩
  · obtain ⟨m, st, xs, _, r, hl, _⟩ := h
    rw [← r.length, hl]
  · obtain ⟨m, st, xs, s0, r, hl, h⟩ := h
    obtain ⟨t, p, z⟩ := (hbody cdv A outer s H E hr (takes_of rfl rfl rfl rfl) (passes_of rfl)).ex
    refine ⟨t, p, z _ H m (xs.map some ++ List.replicate (N.length - xs.length) none) st _ s0 (er_start r) ?_⟩
    unfold runFn at h
    cases q : body (xs.map some ++ List.replicate (N.length - xs.length) none) st with
    | nx e1 s1 => rw [q] at h; exact fun m1 σ1 H1 p1 k1 s2 _ => h.gc s0 m1 _ H1 p1 k1 s2 .non
    | rt v s1 => rw [q] at h; exact fun m1 w1 H1 p1 k1 s2 r1 => h.gc s0 m1 w1 H1 p1 k1 s2 r1
    | er x e1 s1 => rw [q] at h; exact fun m1 d σ1 H1 p1 k1 s2 _ r1 => h.gcx s0 m1 d H1 p1 k1 s2 r1
    | bk e1 s1 => rw [q] at h; exact h.elim
    | ct e1 s1 => rw [q] at h; exact h.elim
    | no => rw [q] at h; exact h.elim
/-- no call is left -/
def fn0 : Fn := fun _ _ => .no
theorem cal_0 {f : Addr} {fd : FuncData} {ps : List Str} (kp : PySem.W.keepIn K (.ref f) = true) : Cal P w K mg base ca 0 f fd ps fn0 := by
  have no : ∀ vs H Q E, ¬ spF K ca ps.length fn0 vs H Q E := fun vs H Q E h => by
    obtain ⟨m, st, xs, _, _, _, h⟩ := h
    exact h
  exact ⟨⟨fun vs H Q E h => absurd h (no vs H Q E), fun A outer s H args us vs Q E _ _ _ _ h => absurd h (no vs H Q E)⟩, kp⟩
end
end
end FL
end
section
set_option linter.all false
set_option maxRecDepth 100000
namespace FL
open PySem PySem.Spec PyProof.Rows L2
noncomputable section
section
variable {K : PySem.W.Frag} {ca : Ca} {m m' : List Addr} {H H' : Hp} {st : Store} {Q : VK}
theorem Post0.val {v : PV} {w : V} (h : Post0 K ca (VR K ca) m H Q (some (v, st))) (s : SR K ca H m st) (r : VR K ca H m v w) : Q w H := h m w H (List.prefix_refl _) Keep.refl s r
theorem Post0.newL {xs : List PV} {vs : List V} {p : Addr} (h : Post0 K ca (VR K ca) m H Q (some (.ref st.length, st ++ [.lst xs]))) (s : SR K ca H m st) (r : VRs K ca H m xs vs) (hp : H p = none) : Q (.ref p) (upd H p (.lst vs)) := by
  obtain ⟨a, b, c, d⟩ := upd_l s hp r
  exact h _ _ _ a b c d
theorem Post0.newT {xs : List PV} {vs : List V} {p : Addr} (h : Post0 K ca (VR K ca) m H Q (some (.tup xs, st))) (s : SR K ca H m st) (r : VRs K ca H m xs vs) (hp : H p = none) : Q (.ref p) (upd H p (.tup vs)) := by
  obtain ⟨a, b, c⟩ := upd_t s hp r
  exact h m _ _ (List.prefix_refl _) a b c
/-- a list of the store, changed -/
theorem Post0.setL {n : Nat} {a : Addr} {ys : List PV} {vs ws : List V} {v : PV} {w : V} (h : Post0 K ca (VR K ca) m H Q (some (v, st.set n (.lst ys)))) (s : SR K ca H m st) (ha : m[n]? = some a) (hH : H a = some (.lst vs)) (r : VRs K ca H m ys ws) (rv : VR K ca H m v w) : Q w (upd H a (.lst ws)) := by
  have kk := Keep.upd (K := K) (o := .lst ws) hH (fun _ z => nomatch z) (fun _ _ z => nomatch z)
  exact h m w _ (List.prefix_refl _) kk (s.set ha hH (fun _ z => nomatch z) (fun _ _ z => nomatch z) ⟨_, upd_same, r.mono (List.prefix_refl _) kk⟩) (rv.mono (List.prefix_refl _) kk)
theorem getL (s : SR K ca H m st) {n : Nat} {a : Addr} {xs : List PV} (h : st[n]? = some (.lst xs)) (ha : m[n]? = some a) : ∃ vs, H a = some (.lst vs) ∧ VRs K ca H m xs vs := s.at h ha
end

/-! ## arithmetic -/
def addV (x y : PV) (st : Store) : O PV := match x, y with
  | .int i, .int j => some (.int (i + j), st)
  | .str a, .str b => if a.length + b.length ≤ sizeLine then some (.str (a ++ b), st) else none
  | .tup xs, .tup ys => if xs.length + ys.length ≤ sizeLine then some (.tup (xs ++ ys), st) else none
  | .ref a, .ref b => match st[a]?, st[b]? with
    | some (.lst xs), some (.lst ys) => if xs.length + ys.length ≤ sizeLine then some (.ref st.length, st ++ [.lst (xs ++ ys)]) else none
    | _, _ => none
  | _, _ => none
def iaddV (x y : PV) (st : Store) : O PV := match x, y with
  | .int i, .int j => some (.int (i + j), st)
  | .str a, .str b => if a.length + b.length ≤ sizeLine then some (.str (a ++ b), st) else none
  | _, _ => none
def subV (x y : PV) (st : Store) : O PV := match x, y with
  | .int i, .int j => some (.int (i - j), st)
  | _, _ => none
def mulOk (i j : Int) : Bool := decide (i.natAbs.log2 + j.natAbs.log2 < 100000000)
def mulV (x y : PV) (st : Store) : O PV := match x, y with
  | .int i, .int j => if mulOk i j = true then some (.int (i * j), st) else none
  | .str a, .int j => if 0 ≤ j ∧ j ≤ 1000 ∧ a.length ≤ 1000 then some (.str (Txt.mul a j), st) else none
  | .ref a, .int j => match st[a]? with
    | some (.lst xs) => if 0 ≤ j ∧ j ≤ 1000 ∧ xs.length ≤ 1000 then some (.ref st.length, st ++ [.lst (List.replicate j.toNat xs).flatten]) else none
    | _ => none
  | _, _ => none
def fdivV (x y : PV) (st : Store) : O PV := match x, y with
  | .int i, .int j => if 0 < j ∧ j.natAbs.log2 < 9000 then some (.int (i / j), st) else none
  | _, _ => none
def modV (x y : PV) (st : Store) : O PV := match x, y with
  | .int i, .int j => if 0 < j then some (.int (i % j), st) else none
  | _, _ => none
def powV (x y : PV) (st : Store) : O PV := match x, y with
  | .int i, .int j => if 0 ≤ j ∧ j ≤ 1000000 ∧ i.natAbs < 2 ^ 64 then some (.int (i ^ j.toNat), st) else none
  | _, _ => none
def negV (x : PV) (st : Store) : O PV := match x with
  | .int i => some (.int (-i), st)
  | _ => none
def cmpV (f : Int → Int → Bool) (x y : PV) (st : Store) : O PV := match x, y with
  | .int i, .int j => some (.bl (f i j), st)
  | _, _ => none
abbrev ltV := cmpV fun i j => decide (i < j)
abbrev leV := cmpV fun i j => decide (i ≤ j)
abbrev gtV := cmpV fun i j => decide (j < i)
abbrev geV := cmpV fun i j => decide (j ≤ i)
def isNonV (x y : PV) (st : Store) : O PV := match y with
  | .non => some (.bl (match x with | .non => true | _ => false), st)
  | _ => none
def notNonV (x y : PV) (st : Store) : O PV := match y with
  | .non => some (.bl (match x with | .non => false | _ => true), st)
  | _ => none
section
variable {X : Cx} {ca : Ca}
/-- two roads joined -/
theorem OpF.or {f : Value → Value → Sem Value} {r r' : R2} {g : PV → PV → Store → O PV} (h : OpR X f r) (h' : OpR X f r')
    (q : ∀ H m st x y x' y' Q, SR X.K ca H m st → VR X.K ca H m x x' → VR X.K ca H m y y' → Post0 X.K ca (VR X.K ca) m H Q (g x y st) → r x' y' H Q ∨ r' x' y' H Q) : OpF X ca f g := ⟨_, OpR.or h h', q⟩
theorem of_ints {f : Value → Value → Sem Value} {C : Int → Int → Prop} {k : Int → Int → V} (h : OpR X f (rI C k)) {g : PV → PV → Store → O PV} {k' : Int → Int → PV} (hk : ∀ H m i j, VR X.K ca H m (k' i j) (k i j))
    (hg : ∀ x y st v, g x y st = some v → ∃ i j, x = .int i ∧ y = .int j ∧ C i j ∧ v = (k' i j, st)) : OpF X ca f g := by
  refine ⟨_, h, fun H m st x y x' y' Q s rx ry p => ?_⟩
  cases e : g x y st with
  | none => rw [e] at p; exact p.elim
  | some v =>
    obtain ⟨i, j, rfl, rfl, c, rfl⟩ := hg x y st v e
    rw [e] at p
    cases rx
    cases ry
    exact ⟨i, j, rfl, rfl, c, p.val s (hk H m i j)⟩
theorem rI0_of {f : Value → Value → Sem Value} {k : Int → Int → V} (h : OpR X f (rI0 k)) : OpR X f (rI (fun _ _ => True) k) := fun pins s σ H x y v u Q I rx ry ⟨i, j, a, b, _, q⟩ => h pins s σ H x y v u Q I rx ry ⟨i, j, a, b, q⟩
theorem of_sub : OpF X ca (binaryOp .Sub) subV := of_ints (rI0_of op_sub) (k' := fun i j => .int (i - j)) (fun _ _ _ _ => .int _) fun x y st v e => by
  cases x <;> cases y <;> simp only [subV, Option.some.injEq, reduceCtorEq] at e
  exact ⟨_, _, rfl, rfl, trivial, e.symm⟩
theorem of_fdiv : OpF X ca (binaryOp .FloorDiv) fdivV := of_ints op_fdivW (k' := fun i j => .int (i / j)) (fun _ _ _ _ => .int _) fun x y st v e => by
  cases x <;> cases y <;> simp only [fdivV, Option.some.injEq, reduceCtorEq] at e
  split at e
  · rename_i h
    exact ⟨_, _, rfl, rfl, h, (Option.some.inj e).symm⟩
  · cases e
theorem of_mod : OpF X ca (binaryOp .Mod) modV := of_ints op_mod (k' := fun i j => .int (i % j)) (fun _ _ _ _ => .int _) fun x y st v e => by
  cases x <;> cases y <;> simp only [modV, Option.some.injEq, reduceCtorEq] at e
  split at e
  · rename_i h
    exact ⟨_, _, rfl, rfl, h, (Option.some.inj e).symm⟩
  · cases e
theorem of_pow : OpF X ca (binaryOp .Pow) powV := of_ints op_pow (k' := fun i j => .int (i ^ j.toNat)) (fun _ _ _ _ => .int _) fun x y st v e => by
  cases x <;> cases y <;> simp only [powV, Option.some.injEq, reduceCtorEq] at e
  split at e
  · rename_i h
    exact ⟨_, _, rfl, rfl, h, (Option.some.inj e).symm⟩
  · cases e
theorem of_neg : UnF X ca (unaryOp .USub) negV := by
  refine ⟨_, un_neg, fun H m st x x' Q s rx p => ?_⟩
  cases rx with
  | int i => exact ⟨i, rfl, p.val s (.int _)⟩
  | _ => exact p.elim
theorem of_cmp {f : Value → Value → Sem Value} {k : Int → Int → Bool} (h : OpR X f (rI0 fun i j => .bl (k i j))) : OpF X ca f (cmpV k) := of_ints (rI0_of h) (k' := fun i j => .bl (k i j)) (fun _ _ _ _ => .bl _) fun x y st v e => by
  cases x <;> cases y <;> simp only [cmpV, Option.some.injEq, reduceCtorEq] at e
  exact ⟨_, _, rfl, rfl, trivial, e.symm⟩
theorem of_lt : OpF X ca (compareOp .Lt) ltV := of_cmp op_lt
theorem of_le : OpF X ca (compareOp .LtE) leV := of_cmp op_le
theorem of_gt : OpF X ca (compareOp .Gt) gtV := of_cmp op_gt
theorem of_ge : OpF X ca (compareOp .GtE) geV := of_cmp op_ge
theorem of_isN : OpF X ca (compareOp .Is) isNonV := by
  refine ⟨_, op_isN, fun H m st x y x' y' Q s rx ry p => ?_⟩
  cases ry with
  | non =>
    refine ⟨rfl, ?_⟩
    cases rx <;> exact p.val s (.bl _)
  | _ => exact p.elim
theorem of_notN : OpF X ca (compareOp .IsNot) notNonV := by
  refine ⟨_, op_notN, fun H m st x y x' y' Q s rx ry p => ?_⟩
  cases ry with
  | non =>
    refine ⟨rfl, ?_⟩
    cases rx <;> exact p.val s (.bl _)
  | _ => exact p.elim
theorem of_add : OpF X ca (binaryOp .Add) addV := by
  refine ⟨_, OpR.or op_add (OpR.or op_add_str (OpR.or op_catA op_cat)), fun H m st x y x' y' Q s rx ry p => ?_⟩
  cases rx with
  | int i => cases ry with
    | int j => exact .inl ⟨i, j, rfl, rfl, p.val s (.int _)⟩
    | _ => exact p.elim
  | str a => cases ry with
    | str b =>
      simp only [addV] at p
      split at p
      · rename_i hz
        exact .inr (.inl ⟨a, b, rfl, rfl, hz, p.val s (.str _)⟩)
      · exact p.elim
    | _ => exact p.elim
  | tup ha ra => cases ry with
    | tup hb rb =>
      rename_i xs a vs ys b ws
      simp only [addV] at p
      split at p
      · rename_i hz
        refine .inr (.inr (.inl ⟨a, b, vs, ws, rfl, rfl, ha, hb, by rw [← ra.length, ← rb.length]; exact hz, fun e => ?_, fun e e2 => ?_, fun _ _ q hq => ?_⟩))
        · subst e
          cases ra
          exact p.val s (.tup hb rb)
        · subst e2
          cases rb
          rw [List.append_nil] at p
          exact p.val s (.tup ha ra)
        · exact p.newT s (ra.append rb) hq
      · exact p.elim
    | _ => exact p.elim
  | ref ha => cases ry with
    | ref hb =>
      simp only [addV] at p
      split at p
      · rename_i xs ys h1 h2
        obtain ⟨vs, e1, r1⟩ := getL s h1 ha
        obtain ⟨ws, e2, r2⟩ := getL s h2 hb
        split at p
        · rename_i hz
          exact .inr (.inr (.inr ⟨_, _, vs, ws, rfl, rfl, e1, e2, by rw [← r1.length, ← r2.length]; exact hz, fun q hq => p.newL s (r1.append r2) hq⟩))
        · exact p.elim
      · exact p.elim
    | _ => exact p.elim
  | _ => exact p.elim
theorem of_iadd : OpF X ca (inplaceOp .Add) iaddV := by
  refine ⟨_, OpR.or iop_add iop_add_str, fun H m st x y x' y' Q s rx ry p => ?_⟩
  cases rx with
  | int i => cases ry with
    | int j => exact .inl ⟨i, j, rfl, rfl, p.val s (.int _)⟩
    | _ => exact p.elim
  | str a => cases ry with
    | str b =>
      simp only [iaddV] at p
      split at p
      · rename_i hz
        exact .inr ⟨a, b, rfl, rfl, hz, p.val s (.str _)⟩
      · exact p.elim
    | _ => exact p.elim
  | _ => exact p.elim
theorem foldl_len (x : Array Nat) : ∀ (n : Nat) (acc : Array Nat), ((List.replicate n x).foldl (· ++ ·) acc).size = acc.size + n * x.size
  | 0, acc => by simp
  | n + 1, acc => by
    rw [List.replicate_succ, List.foldl_cons, foldl_len x n, Array.size_append, Nat.succ_mul]
    omega
theorem op_mul_str : OpR X (binaryOp .Mult) (fun x y H Q => ∃ a j, x = .str a ∧ y = .int j ∧ 0 ≤ j ∧ j ≤ 1000 ∧ a.length ≤ 1000 ∧ Q (.str (Txt.mul a j)) H) := by
  intro pins s σ H x y v u Q I rx ry h
  obtain ⟨a, j, rfl, rfl, h0, h1, h2, q⟩ := h
  obtain ⟨t, rfl⟩ := rx
  obtain ⟨t', rfl⟩ := ry
  refine SB.mul ⟨?_, fun hn _ => ?_, fun hn _ => ?_⟩ fun t1 k => ⟨.str _, H, I.tok k, ⟨_, rfl⟩, q⟩
  · simp only [Bool.or_eq_false_iff, decide_eq_false_iff_not]
    omega
  · have hj : 1 ≤ j := by omega
    have h3 : (a.length : Int) * j ≤ 1000 * 1000 := Int.mul_le_mul (by omega) h1 h0 (by omega)
    have h4 : (a.length : Int) ≤ (2 ^ 63 - 1) / j := Int.le_ediv_of_mul_le (by omega) (by omega)
    omega
  · unfold Builtin.Str.tooLong
    have h3 : a.length * j.toNat ≤ 1000 * 1000 := Nat.mul_le_mul h2 (by omega)
    rw [decide_eq_false_iff_not, sizeLine_eq]
    omega
theorem VRs.rep {K : PySem.W.Frag} {H : Hp} {m : List Addr} {xs : List PV} {vs : List V} (r : VRs K ca H m xs vs) : ∀ n : Nat, VRs K ca H m (List.replicate n xs).flatten (List.replicate n vs).flatten
  | 0 => .nil
  | n + 1 => by
    rw [List.replicate_succ, List.replicate_succ, List.flatten_cons, List.flatten_cons]
    exact r.append (VRs.rep r n)
theorem mulOk_cx {i j : Int} (h : mulOk i j = true) : CMulX i j := by
  have h' : i.natAbs.log2 + j.natAbs.log2 < 100000000 := of_decide_eq_true h
  have b : ∀ z : Int, Builtin.Int.intBits z ≤ z.natAbs.log2 + 1 := fun z => by
    unfold Builtin.Int.intBits
    split <;> omega
  have := b i
  have := b j
  unfold CMulX
  omega
theorem of_mul : OpF X ca (binaryOp .Mult) mulV := by
  refine ⟨_, OpR.or op_mulX (OpR.or op_mul_str op_rep), fun H m st x y x' y' Q s rx ry p => ?_⟩
  cases rx with
  | int i => cases ry with
    | int j =>
      simp only [mulV] at p
      split at p
      · rename_i hz
        exact .inl ⟨i, j, rfl, rfl, mulOk_cx hz, p.val s (.int _)⟩
      · exact p.elim
    | _ => exact p.elim
  | str a => cases ry with
    | int j =>
      simp only [mulV] at p
      split at p
      · rename_i hz
        exact .inr (.inl ⟨a, j, rfl, rfl, hz.1, hz.2.1, hz.2.2, p.val s (.str _)⟩)
      · exact p.elim
    | _ => exact p.elim
  | ref ha => cases ry with
    | int j =>
      simp only [mulV] at p
      split at p
      · rename_i xs h1
        obtain ⟨vs, e1, r1⟩ := getL s h1 ha
        split at p
        · rename_i hz
          have hl := r1.length
          have h3 : vs.length * j.toNat ≤ 1000 * 1000 := Nat.mul_le_mul (by omega) (by omega)
          exact .inr (.inr ⟨_, j, vs, rfl, rfl, e1, by omega, by omega, by rw [sizeLine_eq]; omega, fun q hq => p.newL s (r1.rep _) hq⟩)
        · exact p.elim
      · exact p.elim
    | _ => exact p.elim
  | _ => exact p.elim
end

/-! ## equality -/
def toDs (f : PV → Option PyData) : List PV → Option (List PyData)
  | [] => some []
  | x :: xs => match f x, toDs f xs with
    | some d, some ds => some (d :: ds)
    | _, _ => none
def toD : Nat → Store → PV → Option PyData
  | 0, _, _ => none
  | k + 1, st, v => match v with
    | .non => some .none
    | .bl b => some (.bool b)
    | .int i => some (.int i)
    | .str x => if PyData.strOk x = true then some (.str x) else none
    | .tup xs => (toDs (toD k st) xs).map PyData.tuple
    | .frz xs => (toDs (toD k st) xs).map PyData.list
    | .ref n => match st[n]? with
      | some (.lst xs) => (toDs (toD k st) xs).map PyData.list
      | _ => none
    | _ => none
/-- equality of two things of no parts -/
def scEq (x y : PV) : Option Bool := match x, y with
  | .int i, .int j => some (decide (i = j))
  | .str a, .str b => some (decide (a = b))
  | .bl a, .bl b => some (decide (a = b))
  | .int _, .str _ => some false
  | .str _, .int _ => some false
  | .non, .int _ => some false
  | .int _, .non => some false
  | .non, .str _ => some false
  | .str _, .non => some false
  | .non, .bl _ => some false
  | .bl _, .non => some false
  | .bl _, .str _ => some false
  | .str _, .bl _ => some false
  | _, _ => none
def eqB (x y : PV) (st : Store) : Option Bool := match scEq x y with
  | some b => some b
  | none => match toD 64 st x, toD 64 st y with
    | some d, some e => some (PyData.eqv d e)
    | _, _ => none
def eqV (x y : PV) (st : Store) : O PV := (eqB x y st).map fun b => (.bl b, st)
def neV (x y : PV) (st : Store) : O PV := (eqB x y st).map fun b => (.bl (!b), st)
section
variable {K : PySem.W.Frag} {ca : Ca} {m m' : List Addr} {H H' : Hp} {st : Store}
theorem toDs_ok {f : PV → Option PyData} {k : Nat} (ih : ∀ {x v d}, VR K ca H m x v → f x = some d → Dp K H v d ∧ d.canLay0 = true ∧ d.depth ≤ k) :
    ∀ {xs : List PV} {vs : List V} {ds : List PyData}, VRs K ca H m xs vs → toDs f xs = some ds → DpAll K H vs ds ∧ PyData.canLayAll0 ds = true ∧ PyData.depthAll ds ≤ k
  | _, _, ds, .nil, e => by
    simp only [toDs, Option.some.injEq] at e
    subst e
    exact ⟨.nil, rfl, by simp [PyData.depthAll]⟩
  | _, _, ds, .cons h r, e => by
    simp only [toDs] at e
    split at e
    · rename_i d ds' e1 e2
      cases e
      obtain ⟨a1, a2, a3⟩ := ih h e1
      obtain ⟨b1, b2, b3⟩ := toDs_ok ih r e2
      refine ⟨.cons a1 b1, by simp only [PyData.canLayAll0, a2, b2]; rfl, ?_⟩
      simp only [PyData.depthAll]
      omega
    · cases e
theorem toD_ok (s : SR K ca H m st) : ∀ {k : Nat} {x : PV} {v : V} {d : PyData}, VR K ca H m x v → toD k st x = some d → Dp K H v d ∧ d.canLay0 = true ∧ d.depth ≤ k := by
  intro k
  induction k with
  | zero => intro x v d _ e; cases e
  | succ k ih =>
    intro x v d h e
    cases h with
    | non => simp only [toD, Option.some.injEq] at e; subst e; exact ⟨.non, rfl, by simp [PyData.depth]⟩
    | bl b => simp only [toD, Option.some.injEq] at e; subst e; exact ⟨.bl b, rfl, by simp [PyData.depth]⟩
    | int i => simp only [toD, Option.some.injEq] at e; subst e; exact ⟨.int i, rfl, by simp [PyData.depth]⟩
    | str x =>
      simp only [toD] at e
      split at e
      · rename_i hx
        cases e
        exact ⟨.str x, hx, by simp [PyData.depth]⟩
      · cases e
    | ty n => simp only [toD, reduceCtorEq] at e
    | cls n => simp only [toD, reduceCtorEq] at e
    | exc n => simp only [toD, reduceCtorEq] at e
    | tup hs r =>
      simp only [toD] at e
      obtain ⟨ds, e1, rfl⟩ := Option.map_eq_some_iff.mp e
      obtain ⟨a, b, c⟩ := toDs_ok ih r e1
      refine ⟨.tup hs a, by simpa only [PyData.canLay0] using b, ?_⟩
      simp only [PyData.depth]
      omega
    | frz hs r =>
      simp only [toD] at e
      obtain ⟨ds, e1, rfl⟩ := Option.map_eq_some_iff.mp e
      obtain ⟨a, b, c⟩ := toDs_ok ih r e1
      refine ⟨.lst hs.sq a, by simpa only [PyData.canLay0] using b, ?_⟩
      simp only [PyData.depth]
      omega
    | ref hn =>
      simp only [toD] at e
      split at e
      · rename_i xs hx
        obtain ⟨vs, e2, r⟩ := getL s hx hn
        obtain ⟨ds, e1, rfl⟩ := Option.map_eq_some_iff.mp e
        obtain ⟨a, b, c⟩ := toDs_ok ih r e1
        refine ⟨.lst (SqL.of e2) a, by simpa only [PyData.canLay0] using b, ?_⟩
        simp only [PyData.depth]
        omega
      · cases e
theorem scEq_ok {x y : PV} {x' y' : V} {b : Bool} (rx : VR K ca H m x x') (ry : VR K ca H m y y') (e : scEq x y = some b) : scal x' y' = true ∧ decide (x' = y') = b := by
  cases rx <;> cases ry <;> simp only [scEq, Option.some.injEq, reduceCtorEq] at e <;> subst e <;> refine ⟨rfl, ?_⟩ <;> simp
theorem eqB_ok (s : SR K ca H m st) {x y : PV} {x' y' : V} {b : Bool} (rx : VR K ca H m x x') (ry : VR K ca H m y y') (e : eqB x y st = some b) :
    (scal x' y' = true ∧ decide (x' = y') = b) ∨ ∃ d d', Dp K H x' d ∧ Dp K H y' d' ∧ SeqAt.shaped d = true ∧ SeqAt.shaped d' = true ∧ PyData.eqv d d' = b := by
  unfold eqB at e
  split at e
  · rename_i b' e1
    cases e
    exact .inl (scEq_ok rx ry e1)
  · split at e
    · rename_i d d' e1 e2
      cases e
      obtain ⟨a1, a2, a3⟩ := toD_ok s rx e1
      obtain ⟨b1, b2, b3⟩ := toD_ok s ry e2
      refine .inr ⟨d, d', a1, b1, ?_, ?_, rfl⟩
      · unfold SeqAt.shaped; rw [a2, decide_eq_true a3]; rfl
      · unfold SeqAt.shaped; rw [b2, decide_eq_true b3]; rfl
    · cases e
end
section
variable {X : Cx} {ca : Ca}
theorem of_eq (hu : X.A.units + 64 < cLine) : OpF X ca (compareOp .Eq) eqV := by
  refine ⟨_, OpR.or op_eq (op_eqD hu), fun H m st x y x' y' Q s rx ry p => ?_⟩
  unfold eqV at p
  cases e : eqB x y st with
  | none => rw [e] at p; exact p.elim
  | some b =>
    rw [e] at p
    have q := p.val s (.bl b)
    rcases eqB_ok s rx ry e with ⟨h1, h2⟩ | ⟨d, d', h1, h2, h3, h4, h5⟩
    · exact .inl ⟨h1, by rw [h2]; exact q⟩
    · exact .inr ⟨d, d', h1, h2, h3, h4, by rw [h5]; exact q⟩
theorem of_ne (hu : X.A.units + 64 < cLine) : OpF X ca (compareOp .NotEq) neV := by
  refine ⟨_, OpR.or op_ne (op_neD hu), fun H m st x y x' y' Q s rx ry p => ?_⟩
  unfold neV at p
  cases e : eqB x y st with
  | none => rw [e] at p; exact p.elim
  | some b =>
    rw [e] at p
    have q := p.val s (.bl (!b))
    rcases eqB_ok s rx ry e with ⟨h1, h2⟩ | ⟨d, d', h1, h2, h3, h4, h5⟩
    · exact .inl ⟨h1, by rw [h2]; exact q⟩
    · exact .inr ⟨d, d', h1, h2, h3, h4, by rw [h5]; exact q⟩
end
end
end FL
end
section
set_option linter.all false
set_option maxRecDepth 100000
namespace FL
open PySem PySem.Spec PyProof.Rows L2
noncomputable section
/-! ## built-ins -/
def lenV (xs : List PV) (st : Store) : O PV := match xs with
  | [.str x] => if x.length ≤ sizeLine then some (.int x.length, st) else none
  | [.tup ys] => some (.int ys.length, st)
  | [.frz ys] => some (.int ys.length, st)
  | [.ref n] => match st[n]? with
    | some (.lst ys) => some (.int ys.length, st)
    | some (.dK kvs) => some (.int kvs.length, st)
    | _ => none
  | _ => none
def absV' (xs : List PV) (st : Store) : O PV := match xs with
  | [.int i] => some (.int (if i < 0 then -i else i), st)
  | _ => none
/-- the ints that stand there -/
def intsOf : List PV → Option (List Int)
  | [] => some []
  | .int i :: xs => (intsOf xs).map fun r => i :: r
  | _ :: _ => none
def strsOf : List PV → Option (List Str)
  | [] => some []
  | .str i :: xs => (strsOf xs).map fun r => i :: r
  | _ :: _ => none
def blsOf : List PV → Option (List Bool)
  | [] => some []
  | .bl i :: xs => (blsOf xs).map fun r => i :: r
  | _ :: _ => none
/-- a list's items -/
def lstAt (st : Store) : PV → Option (List PV)
  | .frz xs => some xs
  | .ref n => match st[n]? with
    | some (.lst xs) => some xs
    | _ => none
  | _ => none
/-- a list's or a tuple's items -/
def seqAt (st : Store) : PV → Option (List PV)
  | .tup xs => some xs
  | v => lstAt st v
def maxL (ns : List Int) : Int := ns.foldl max (ns.headD 0)
def minL (ns : List Int) : Int := ns.foldl min (ns.headD 0)
def maxV (xs : List PV) (st : Store) : O PV := match xs with
  | [.int i, .int j] => some (.int (max i j), st)
  | [v] => match (lstAt st v).bind intsOf with
    | some ns => if ns = [] then none else some (.int (maxL ns), st)
    | none => none
  | _ => none
def minV (xs : List PV) (st : Store) : O PV := match xs with
  | [.int i, .int j] => some (.int (min i j), st)
  | [v] => match (lstAt st v).bind intsOf with
    | some ns => if ns = [] then none else some (.int (minL ns), st)
    | none => none
  | _ => none
def sumV (xs : List PV) (st : Store) : O PV := match xs with
  | [v] => ((lstAt st v).bind intsOf).map fun ns => (.int ns.sum, st)
  | _ => none
def anyV (xs : List PV) (st : Store) : O PV := match xs with
  | [v] => ((lstAt st v).bind blsOf).map fun ns => (.bl (ns.any id), st)
  | _ => none
def allV (xs : List PV) (st : Store) : O PV := match xs with
  | [v] => ((lstAt st v).bind blsOf).map fun ns => (.bl (ns.all id), st)
  | _ => none
def tupleV (xs : List PV) (st : Store) : O PV := match xs with
  | [v] => (seqAt st v).map fun ys => (.tup ys, st)
  | _ => none
def listV (xs : List PV) (st : Store) : O PV := match xs with
  | [v] => (seqAt st v).map fun ys => (.ref st.length, st ++ [.lst ys])
  | _ => none
def strV (xs : List PV) (st : Store) : O PV := match xs with
  | [.int i] => if i.natAbs.log2 < 1920 then some (.str (toString i), st) else none
  | _ => none
def intV (xs : List PV) (st : Store) : O PV := match xs with
  | [.str a] => match PySem.intText? a with
    | some n => if a.length ≤ 640 then some (.int n, st) else none
    | none => none
  | [.int i] => some (.int i, st)
  | [.bl b] => some (.int (if b then 1 else 0), st)
  | _ => none
def ordV (xs : List PV) (st : Store) : O PV := match xs with
  | [.str x] => if x.length = 1 then some (.int (x.cps.getD 0 0 : Nat), st) else none
  | _ => none
/-- a value's built-in type -/
def typV (st : Store) : PV → Option String
  | .non => some "NoneType"
  | .bl _ => some "bool"
  | .int _ => some "int"
  | .str _ => some "str"
  | .tup _ => some "tuple"
  | .frz _ => some "list"
  | .ref n => match st[n]? with
    | some (.lst _) => some "list"
    | some (.dK _) => some "dict"
    | _ => none
  | _ => none
def isiV (xs : List PV) (st : Store) : O PV := match xs with
  | [v, .ty n] => match typV st v with
    | some t => (kitB t n).map fun b => (.bl b, st)
    | none => none
  | _ => none
def idxV (x y : PV) (st : Store) : O PV := match y with
  | .int i => match x with
    | .str z => if z.length ≤ sizeLine then (atI z.cps.toList i).map fun c => (.str ⟨#[c]⟩, st) else none
    | v => match seqAt st v with
      | some xs => (atI xs i).map fun v => (v, st)
      | none => none
  | _ => none
def cutP (xs : List PV) (lo hi : Option Int) : List PV := (xs.drop (HT.sIx xs.length 0 lo)).take (HT.sIx xs.length xs.length hi - HT.sIx xs.length 0 lo)
def slV (x : PV) (lo hi : Option Int) (st : Store) : O PV := match x with
  | .str z => if z.length ≤ sizeLine then some (.str (cutS z lo hi), st) else none
  | .tup xs => some (.tup (cutP xs lo hi), st)
  | v => (lstAt st v).map fun xs => (.ref st.length, st ++ [.lst (cutP xs lo hi)])
def flatP : PV → Bool
  | .non => true
  | .bl _ => true
  | .int _ => true
  | .str _ => true
  | _ => false
def eqP : PV → PV → Bool
  | .non, .non => true
  | .bl a, .bl b => a == b
  | .bl a, .int b => (if a then 1 else 0) == b
  | .int a, .bl b => a == (if b then 1 else 0)
  | .int a, .int b => a == b
  | .str a, .str b => a == b
  | _, _ => false
/-- x in y -/
def inB (x y : PV) (st : Store) : Option Bool := match y with
  | .str z => match x with
    | .str a => if a.cps.size = 1 then some (decide (a.cps.getD 0 0 ∈ z.cps.toList)) else some (!(Builtin.Str.occurrences z a 0 z.length 1).isEmpty)
    | _ => none
  | v => match seqAt st v with
    | some ys => if flatP x = true ∧ ys.all flatP = true then some (ys.any fun y => eqP y x) else match lstAt st v with
      | some zs => match toD 64 st x, toDs (toD 63 st) zs with
        | some d, some ds => some (ds.any fun z => PyData.eqv z d)
        | _, _ => none
      | none => none
    | none => none
def inV (x y : PV) (st : Store) : O PV := (inB x y st).map fun b => (.bl b, st)
def ninV (x y : PV) (st : Store) : O PV := (inB x y st).map fun b => (.bl (!b), st)

section
variable {K : PySem.W.Frag} {ca : Ca} {m m' : List Addr} {H H' : Hp} {st : Store}
theorem ints_ok : ∀ {xs : List PV} {vs : List V} {ns : List Int}, VRs K ca H m xs vs → intsOf xs = some ns → vs = ns.map V.int
  | _, _, ns, .nil, e => by simp only [intsOf, Option.some.injEq] at e; subst e; rfl
  | _, _, ns, .cons h r, e => by
    cases h with
    | int i =>
      simp only [intsOf] at e
      obtain ⟨r', e1, rfl⟩ := Option.map_eq_some_iff.mp e
      rw [ints_ok r e1, List.map_cons]
    | _ => cases e
theorem strs_ok : ∀ {xs : List PV} {vs : List V} {ns : List Str}, VRs K ca H m xs vs → strsOf xs = some ns → vs = ns.map V.str
  | _, _, ns, .nil, e => by simp only [strsOf, Option.some.injEq] at e; subst e; rfl
  | _, _, ns, .cons h r, e => by
    cases h with
    | str i =>
      simp only [strsOf] at e
      obtain ⟨r', e1, rfl⟩ := Option.map_eq_some_iff.mp e
      rw [strs_ok r e1, List.map_cons]
    | _ => cases e
theorem bls_ok : ∀ {xs : List PV} {vs : List V} {ns : List Bool}, VRs K ca H m xs vs → blsOf xs = some ns → vs = ns.map V.bl
  | _, _, ns, .nil, e => by simp only [blsOf, Option.some.injEq] at e; subst e; rfl
  | _, _, ns, .cons h r, e => by
    cases h with
    | bl i =>
      simp only [blsOf] at e
      obtain ⟨r', e1, rfl⟩ := Option.map_eq_some_iff.mp e
      rw [bls_ok r e1, List.map_cons]
    | _ => cases e
theorem lst_ok (s : SR K ca H m st) {v : PV} {w : V} {xs : List PV} (r : VR K ca H m v w) (e : lstAt st v = some xs) : ∃ a vs, w = .ref a ∧ SqL K H a vs ∧ VRs K ca H m xs vs := by
  cases r with
  | frz h r => simp only [lstAt, Option.some.injEq] at e; subst e; exact ⟨_, _, rfl, h.sq, r⟩
  | ref hn =>
    simp only [lstAt] at e
    split at e
    · rename_i ys hx
      cases e
      obtain ⟨vs, e1, r1⟩ := getL s hx hn
      exact ⟨_, _, rfl, SqL.of e1, r1⟩
    · cases e
  | _ => cases e
theorem seq_ok (s : SR K ca H m st) {v : PV} {w : V} {xs : List PV} (r : VR K ca H m v w) (e : seqAt st v = some xs) : ∃ a vs, w = .ref a ∧ (SqL K H a vs ∨ SqT K H a vs) ∧ VRs K ca H m xs vs := by
  cases r with
  | tup h r => simp only [seqAt, Option.some.injEq] at e; subst e; exact ⟨_, _, rfl, .inr h, r⟩
  | frz h r => simp only [seqAt, lstAt, Option.some.injEq] at e; subst e; exact ⟨_, _, rfl, .inl h.sq, r⟩
  | ref hn =>
    obtain ⟨a, vs, e1, e2, e3⟩ := lst_ok s (.ref hn) (show lstAt st _ = some xs from e)
    exact ⟨a, vs, e1, .inl e2, e3⟩
  | _ => cases e
theorem atI_ok {xs : List PV} {vs : List V} {i : Int} {x : PV} (r : VRs K ca H m xs vs) (e : atI xs i = some x) : ∃ v, atI vs i = some v ∧ VR K ca H m x v := by
  unfold atI at e ⊢
  rw [← r.length]
  cases q : ixN xs.length i with
  | none => rw [q] at e; cases e
  | some j =>
    rw [q] at e
    exact r.get e
theorem cut_ok {xs : List PV} {vs : List V} (r : VRs K ca H m xs vs) (lo hi : Option Int) : VRs K ca H m (cutP xs lo hi) (cutV vs lo hi) := by
  unfold cutP cutV
  rw [← r.length]
  exact (r.drop _).take _
theorem maxL_ok : ∀ (ns : List Int) (a : Int), a ≤ ns.foldl max a ∧ (∀ y ∈ ns, y ≤ ns.foldl max a) ∧ (ns.foldl max a = a ∨ ns.foldl max a ∈ ns)
  | [], a => ⟨Int.le_refl _, fun _ h => (nomatch h), .inl rfl⟩
  | n :: r, a => by
    obtain ⟨h1, h2, h3⟩ := maxL_ok r (max a n)
    rw [List.foldl_cons]
    refine ⟨by omega, fun y hy => ?_, ?_⟩
    · rcases List.mem_cons.mp hy with rfl | hy
      · omega
      · exact h2 y hy
    · rcases h3 with h3 | h3
      · by_cases q : a ≤ n
        · exact .inr (by rw [h3]; rw [show max a n = n by omega]; exact List.mem_cons_self)
        · exact .inl (by rw [h3]; omega)
      · exact .inr (List.mem_cons_of_mem _ h3)
theorem minL_ok : ∀ (ns : List Int) (a : Int), ns.foldl min a ≤ a ∧ (∀ y ∈ ns, ns.foldl min a ≤ y) ∧ (ns.foldl min a = a ∨ ns.foldl min a ∈ ns)
  | [], a => ⟨Int.le_refl _, fun _ h => (nomatch h), .inl rfl⟩
  | n :: r, a => by
    obtain ⟨h1, h2, h3⟩ := minL_ok r (min a n)
    rw [List.foldl_cons]
    refine ⟨by omega, fun y hy => ?_, ?_⟩
    · rcases List.mem_cons.mp hy with rfl | hy
      · omega
      · exact h2 y hy
    · rcases h3 with h3 | h3
      · by_cases q : n ≤ a
        · exact .inr (by rw [h3]; rw [show min a n = n by omega]; exact List.mem_cons_self)
        · exact .inl (by rw [h3]; omega)
      · exact .inr (List.mem_cons_of_mem _ h3)
theorem flat_ok {x : PV} {v : V} (r : VR K ca H m x v) (h : flatP x = true) : flatV v = true := by
  cases r <;> first | rfl | cases h
theorem flats_ok : ∀ {xs : List PV} {vs : List V}, VRs K ca H m xs vs → xs.all flatP = true → vs.all flatV = true
  | _, _, .nil, _ => rfl
  | _, _, .cons h r, e => by
    simp only [List.all_cons, Bool.and_eq_true] at e ⊢
    exact ⟨flat_ok h e.1, flats_ok r e.2⟩
theorem eqP_ok {x y : PV} {v w : V} (rx : VR K ca H m x v) (ry : VR K ca H m y w) : L2.eqV v w = eqP x y := by
  cases rx <;> cases ry <;> rfl
theorem anyP_ok {x : PV} {v : V} (rx : VR K ca H m x v) : ∀ {xs : List PV} {vs : List V}, VRs K ca H m xs vs → L2.inV v vs = xs.any fun y => eqP y x
  | _, _, .nil => rfl
  | _, _, .cons h r => by
    have ih := anyP_ok rx r
    unfold L2.inV at ih ⊢
    rw [List.any_cons, List.any_cons, ih, eqP_ok h rx]
theorem typ_ok (s : SR K ca H m st) {x : PV} {v : V} {t : String} (r : VR K ca H m x v) (e : typV st x = some t) : TyX K H v (.type t) := by
  cases r with
  | non => cases e; exact .base .non
  | bl b => cases e; exact .base (.bl b)
  | int i => cases e; exact .base (.int i)
  | str x => cases e; exact .base (.str x)
  | tup h r =>
    cases e
    rcases h with (h | ⟨o, h⟩) | ⟨o, its, n, h1, h2, _⟩
    · exact .base (.tup h)
    · exact .fTuple h
    · exact .kTuple h1 h2
  | frz h r =>
    cases e
    rcases h with ⟨o, h⟩ | ⟨o, its, n, h1, h2, _⟩
    · exact .base (.frz h)
    · exact .kList h1 h2
  | ref hn =>
    simp only [typV] at e
    split at e
    · rename_i ys hx
      cases e
      obtain ⟨vs, e1, r1⟩ := s.at hx hn
      exact .base (.lst e1)
    · rename_i ys hx
      cases e
      obtain ⟨vs, e1, r1⟩ := s.at hx hn
      exact .base (.dK e1)
    · cases e
  | _ => cases e
end
section
variable {X : Cx} {ca : Ca}
theorem CallR.or {f : Value} {r r' : List V → Hp → VK → Prop} (h : CallR X f r) (h' : CallR X f r') : CallR X f (fun xs H Q => r xs H Q ∨ r' xs H Q) := by
  intro pins s σ H xs us Q I r q
  rcases q with q | q
  · exact h pins s σ H xs us Q I r q
  · exact h' pins s σ H xs us Q I r q
theorem vrs1 {K : PySem.W.Frag} {H : Hp} {m : List Addr} {x : PV} {vs : List V} (r : VRs K ca H m [x] vs) : ∃ v, vs = [v] ∧ VR K ca H m x v := by
  cases r with
  | cons h r => cases r; exact ⟨_, rfl, h⟩
theorem vrs2 {K : PySem.W.Frag} {H : Hp} {m : List Addr} {x y : PV} {vs : List V} (r : VRs K ca H m [x, y] vs) : ∃ v w, vs = [v, w] ∧ VR K ca H m x v ∧ VR K ca H m y w := by
  cases r with
  | cons h r => cases r with
    | cons h2 r => cases r; exact ⟨_, _, rfl, h, h2⟩
theorem cb_len : CbF X ca (.builtin "len") lenV := by
  refine ⟨_, CallR.or call_len call_lenD, fun H m st xs vs Q s r p => ?_⟩
  unfold lenV at p
  split at p
  · obtain ⟨v, rfl, r1⟩ := vrs1 r
    cases r1
    split at p
    · rename_i x hz
      exact .inl ⟨_, x.length, rfl, ⟨hz, rfl⟩, p.val s (.int _)⟩
    · exact p.elim
  · obtain ⟨v, rfl, r1⟩ := vrs1 r
    cases r1 with
    | tup h rr => exact .inl ⟨_, _, rfl, .inr ⟨_, h, rr.length⟩, p.val s (.int _)⟩
  · obtain ⟨v, rfl, r1⟩ := vrs1 r
    cases r1 with
    | frz h rr => exact .inl ⟨_, _, rfl, .inl ⟨_, h.sq, rr.length⟩, p.val s (.int _)⟩
  · obtain ⟨v, rfl, r1⟩ := vrs1 r
    cases r1 with
    | ref hn =>
      split at p
      · rename_i ys hx
        obtain ⟨vs, e1, r1⟩ := getL s hx hn
        exact .inl ⟨_, _, rfl, .inl ⟨_, SqL.of e1, r1.length⟩, p.val s (.int _)⟩
      · rename_i ys hx
        obtain ⟨vs, e1, r1⟩ := s.at hx hn
        refine .inr ⟨_, _, rfl, e1, ?_⟩
        have : ys.length = vs.length := Paired.length r1
        rw [← this]
        exact p.val s (.int _)
      · exact p.elim
  · exact p.elim
theorem cb_abs : CbF X ca (.builtin "abs") absV' := by
  refine ⟨_, call_abs, fun H m st xs vs Q s r p => ?_⟩
  unfold absV' at p
  split at p
  · obtain ⟨v, rfl, r1⟩ := vrs1 r
    cases r1
    exact ⟨_, rfl, p.val s (.int _)⟩
  · exact p.elim
theorem cb_max (hc : X.calm = true) : CbF X ca (.builtin "max") maxV := by
  refine ⟨_, CallR.or (call_max2 hc) (cr_max hc), fun H m st xs vs Q s r p => ?_⟩
  unfold maxV at p
  split at p
  · rename_i i j
    obtain ⟨v, w, rfl, r1, r2⟩ := vrs2 r
    cases r1
    cases r2
    refine .inl ⟨_, _, rfl, ?_⟩
    rw [show (if j > i then j else i) = max i j by split <;> omega]
    exact p.val s (.int _)
  · obtain ⟨v, rfl, r1⟩ := vrs1 r
    split at p
    · rename_i ns he
      obtain ⟨ys, e1, e2⟩ := Option.bind_eq_some_iff.mp he
      obtain ⟨a, vs, rfl, hq, r2⟩ := lst_ok s r1 e1
      obtain rfl := ints_ok r2 e2
      split at p
      · exact p.elim
      · rename_i hne
        refine .inr ⟨a, ns, rfl, hq, by cases ns with | nil => exact absurd rfl hne | cons _ _ => simp, fun mm hm hle => ?_⟩
        have e : mm = maxL ns := by
          cases ns with
          | nil => cases hm
          | cons n r =>
            obtain ⟨q1, q2, q3⟩ := maxL_ok (n :: r) n
            have i1 := q2 mm hm
            have i2 : maxL (n :: r) ∈ n :: r := by
              rcases q3 with q3 | q3
              · show List.foldl max n (n :: r) ∈ _
                rw [q3]; exact List.mem_cons_self
              · exact q3
            have i3 := hle _ i2
            show mm = List.foldl max n (n :: r)
            have i4 : maxL (n :: r) = List.foldl max n (n :: r) := rfl
            omega
        rw [e]
        exact p.val s (.int _)
    · exact p.elim
  · exact p.elim
theorem cb_min (hc : X.calm = true) : CbF X ca (.builtin "min") minV := by
  refine ⟨_, CallR.or (call_min2 hc) (cr_min hc), fun H m st xs vs Q s r p => ?_⟩
  unfold minV at p
  split at p
  · rename_i i j
    obtain ⟨v, w, rfl, r1, r2⟩ := vrs2 r
    cases r1
    cases r2
    refine .inl ⟨_, _, rfl, ?_⟩
    rw [show (if j < i then j else i) = min i j by split <;> omega]
    exact p.val s (.int _)
  · obtain ⟨v, rfl, r1⟩ := vrs1 r
    split at p
    · rename_i ns he
      obtain ⟨ys, e1, e2⟩ := Option.bind_eq_some_iff.mp he
      obtain ⟨a, vs, rfl, hq, r2⟩ := lst_ok s r1 e1
      obtain rfl := ints_ok r2 e2
      split at p
      · exact p.elim
      · rename_i hne
        refine .inr ⟨a, ns, rfl, hq, by cases ns with | nil => exact absurd rfl hne | cons _ _ => simp, fun mm hm hle => ?_⟩
        have e : mm = minL ns := by
          cases ns with
          | nil => cases hm
          | cons n r =>
            obtain ⟨q1, q2, q3⟩ := minL_ok (n :: r) n
            have i1 := q2 mm hm
            have i2 : minL (n :: r) ∈ n :: r := by
              rcases q3 with q3 | q3
              · show List.foldl min n (n :: r) ∈ _
                rw [q3]; exact List.mem_cons_self
              · exact q3
            have i3 := hle _ i2
            show mm = List.foldl min n (n :: r)
            have i4 : minL (n :: r) = List.foldl min n (n :: r) := rfl
            omega
        rw [e]
        exact p.val s (.int _)
    · exact p.elim
  · exact p.elim
theorem cb_sum (hc : X.calm = true) : CbF X ca (.builtin "sum") sumV := by
  refine ⟨_, cr_sum hc, fun H m st xs vs Q s r p => ?_⟩
  unfold sumV at p
  split at p
  · obtain ⟨v, rfl, r1⟩ := vrs1 r
    rename_i w
    cases he : (lstAt st w).bind intsOf with
    | none => rw [he] at p; exact p.elim
    | some ns =>
      rw [he] at p
      obtain ⟨ys, e1, e2⟩ := Option.bind_eq_some_iff.mp he
      obtain ⟨a, vs, rfl, hq, r2⟩ := lst_ok s r1 e1
      obtain rfl := ints_ok r2 e2
      exact ⟨a, ns, rfl, hq, p.val s (.int _)⟩
  · exact p.elim
theorem cb_any (hc : X.calm = true) : CbF X ca (.builtin "any") anyV := by
  refine ⟨_, cr_any hc, fun H m st xs vs Q s r p => ?_⟩
  unfold anyV at p
  split at p
  · obtain ⟨v, rfl, r1⟩ := vrs1 r
    rename_i w
    cases he : (lstAt st w).bind blsOf with
    | none => rw [he] at p; exact p.elim
    | some ns =>
      rw [he] at p
      obtain ⟨ys, e1, e2⟩ := Option.bind_eq_some_iff.mp he
      obtain ⟨a, vs, rfl, hq, r2⟩ := lst_ok s r1 e1
      obtain rfl := bls_ok r2 e2
      exact ⟨a, ns, rfl, hq, p.val s (.bl _)⟩
  · exact p.elim
theorem cb_all (hc : X.calm = true) : CbF X ca (.builtin "all") allV := by
  refine ⟨_, cr_all hc, fun H m st xs vs Q s r p => ?_⟩
  unfold allV at p
  split at p
  · obtain ⟨v, rfl, r1⟩ := vrs1 r
    rename_i w
    cases he : (lstAt st w).bind blsOf with
    | none => rw [he] at p; exact p.elim
    | some ns =>
      rw [he] at p
      obtain ⟨ys, e1, e2⟩ := Option.bind_eq_some_iff.mp he
      obtain ⟨a, vs, rfl, hq, r2⟩ := lst_ok s r1 e1
      obtain rfl := bls_ok r2 e2
      exact ⟨a, ns, rfl, hq, p.val s (.bl _)⟩
  · exact p.elim
theorem cb_tuple : CbF X ca (.type "tuple") tupleV := by
  refine ⟨_, call_tuple_of, fun H m st xs vs Q s r p => ?_⟩
  unfold tupleV at p
  split at p
  · obtain ⟨v, rfl, r1⟩ := vrs1 r
    rename_i w
    cases r1 with
    | tup h rr => exact ⟨_, _, rfl, .inr ⟨h, p.val s (.tup h rr)⟩⟩
    | frz h rr => exact ⟨_, _, rfl, .inl ⟨h.sq, fun l hl => p.newT s rr hl⟩⟩
    | ref hn =>
      simp only [seqAt, lstAt] at p
      split at p
      · rename_i ys hx
        obtain ⟨vs, e1, r1⟩ := getL s hx hn
        exact ⟨_, _, rfl, .inl ⟨SqL.of e1, fun l hl => p.newT s r1 hl⟩⟩
      · exact p.elim
    | _ => exact p.elim
  · exact p.elim
theorem cb_list : CbF X ca (.type "list") listV := by
  refine ⟨_, call_list_of, fun H m st xs vs Q s r p => ?_⟩
  unfold listV at p
  split at p
  · obtain ⟨v, rfl, r1⟩ := vrs1 r
    rename_i w
    cases he : seqAt st w with
    | none => rw [he] at p; exact p.elim
    | some ys =>
      rw [he] at p
      obtain ⟨a, vs, rfl, hq, r2⟩ := seq_ok s r1 he
      exact ⟨a, vs, rfl, hq, fun l hl => p.newL s r2 hl⟩
  · exact p.elim
theorem cb_str : CbF X ca (.type "str") strV := by
  refine ⟨_, call_str_int, fun H m st xs vs Q s r p => ?_⟩
  unfold strV at p
  split at p
  · obtain ⟨v, rfl, r1⟩ := vrs1 r
    cases r1
    split at p
    · rename_i hz
      exact ⟨_, rfl, hz, p.val s (.str _)⟩
    · exact p.elim
  · exact p.elim
theorem cb_int : CbF X ca (.type "int") intV := by
  refine ⟨_, CallR.or call_int_str call_int1, fun H m st xs vs Q s r p => ?_⟩
  unfold intV at p
  split at p
  · obtain ⟨v, rfl, r1⟩ := vrs1 r
    cases r1
    split at p
    · rename_i n hn
      split at p
      · rename_i hz
        exact .inl ⟨_, n, rfl, hn, hz, p.val s (.int _)⟩
      · exact p.elim
    · exact p.elim
  · obtain ⟨v, rfl, r1⟩ := vrs1 r
    cases r1
    exact .inr (.inl ⟨_, rfl, p.val s (.int _)⟩)
  · obtain ⟨v, rfl, r1⟩ := vrs1 r
    cases r1
    exact .inr (.inr ⟨_, rfl, p.val s (.int _)⟩)
  · exact p.elim
theorem cb_ord : CbF X ca (.builtin "ord") ordV := by
  refine ⟨_, call_ord, fun H m st xs vs Q s r p => ?_⟩
  unfold ordV at p
  split at p
  · obtain ⟨v, rfl, r1⟩ := vrs1 r
    cases r1
    split at p
    · rename_i hz
      exact ⟨_, rfl, hz, p.val s (.int _)⟩
    · exact p.elim
  · exact p.elim
theorem cb_isi : CbF X ca (.builtin "isinstance") isiV := by
  refine ⟨_, call_isi, fun H m st xs vs Q s r p => ?_⟩
  unfold isiV at p
  split at p
  · rename_i v0 n0
    obtain ⟨v, w, rfl, r1, r2⟩ := vrs2 r
    cases r2
    split at p
    · rename_i t ht
      cases hk : kitB t n0 with
      | none => rw [hk] at p; exact p.elim
      | some b =>
        rw [hk] at p
        exact ⟨v, _, _, _, b, rfl, .ty _, typ_ok s r1 ht, kit_ty hk, p.val s (.bl b)⟩
    · exact p.elim
  · exact p.elim
theorem ix_any : IxF X ca idxV := by
  refine ⟨_, ix_seq, fun H m st x y x' y' Q s rx ry p => ?_⟩
  unfold idxV at p
  split at p
  · cases ry
    rename_i i
    split at p
    · cases rx
      rename_i z
      split at p
      · rename_i hz
        cases he : atI z.cps.toList i with
        | none => rw [he] at p; exact p.elim
        | some c =>
          rw [he] at p
          exact .inr (.inr ⟨z, i, c, rfl, rfl, hz, he, p.val s (.str _)⟩)
      · exact p.elim
    · split at p
      · rename_i xs he
        obtain ⟨a, vs, rfl, hq, r2⟩ := seq_ok s rx he
        cases hi : atI xs i with
        | none => rw [hi] at p; exact p.elim
        | some v =>
          rw [hi] at p
          obtain ⟨w, e1, e2⟩ := atI_ok r2 hi
          rcases hq with hq | hq
          · exact .inl ⟨a, vs, i, w, rfl, rfl, hq, e1, p.val s e2⟩
          · exact .inr (.inl ⟨a, vs, i, w, rfl, rfl, hq, e1, p.val s e2⟩)
      · exact p.elim
  · exact p.elim
/-! ### in -/
theorem of_in (hu : X.A.units + 65 < cLine) : OpF X ca (compareOp .In) inV := by
  refine ⟨_, OpR.or op_in_sign (OpR.or op_in_str (OpR.or op_in_seq (op_inD hu))), fun H m st x y x' y' Q s rx ry p => ?_⟩
  unfold inV inB at p
  split at p
  · cases ry
    rename_i z
    split at p
    · cases rx
      rename_i a
      split at p
      · rename_i h1
        refine .inl ⟨a.cps.getD 0 0, z, ?_, rfl, p.val s (.bl _)⟩
        obtain ⟨⟨l⟩⟩ := a
        match l, h1 with
        | [c], _ => rfl
      · exact .inr (.inl ⟨a, z, rfl, rfl, p.val s (.bl _)⟩)
    · exact p.elim
  · split at p
    · rename_i ys he
      obtain ⟨a, vs, e0, hq, r2⟩ := seq_ok s ry he
      split at p
      · rename_i hf
        subst e0
        refine .inr (.inr (.inl ⟨a, vs, rfl, hq, flat_ok rx hf.1, flats_ok r2 hf.2, ?_⟩))
        show Q (.bl (L2.inV x' vs)) H
        rw [anyP_ok rx r2]
        exact p.val s (.bl _)
      · split at p
        · rename_i zs hz
          obtain ⟨a2, ws, e1, hq2, r3⟩ := lst_ok s ry hz
          split at p
          · rename_i d ds h1 h2
            obtain ⟨a1, a2, a3⟩ := toD_ok s rx h1
            obtain ⟨b1, b2, b3⟩ := toDs_ok (fun h e => toD_ok s h e) r3 h2
            subst e1
            refine .inr (.inr (.inr ⟨d, ds, a1, .lst hq2 b1, ?_, ?_, p.val s (.bl _)⟩))
            · unfold SeqAt.shaped; rw [a2, decide_eq_true a3]; rfl
            · unfold SeqAt.shaped
              rw [decide_eq_true (show (PyData.list ds).depth ≤ 64 by simp only [PyData.depth]; omega)]
              simp only [PyData.canLay0, b2]
              rfl
          · exact p.elim
        · exact p.elim
    · exact p.elim
theorem of_nin (hu : X.A.units + 65 < cLine) : OpF X ca (compareOp .NotIn) ninV := by
  refine ⟨_, OpR.or op_notIn_sign (OpR.or op_notin_str (OpR.or op_notIn_seq (op_notInD hu))), fun H m st x y x' y' Q s rx ry p => ?_⟩
  unfold ninV inB at p
  split at p
  · cases ry
    rename_i z
    split at p
    · cases rx
      rename_i a
      split at p
      · rename_i h1
        refine .inl ⟨a.cps.getD 0 0, z, ?_, rfl, p.val s (.bl _)⟩
        obtain ⟨⟨l⟩⟩ := a
        match l, h1 with
        | [c], _ => rfl
      · exact .inr (.inl ⟨a, z, rfl, rfl, p.val s (.bl _)⟩)
    · exact p.elim
  · split at p
    · rename_i ys he
      obtain ⟨a, vs, e0, hq, r2⟩ := seq_ok s ry he
      split at p
      · rename_i hf
        subst e0
        refine .inr (.inr (.inl ⟨a, vs, rfl, hq, flat_ok rx hf.1, flats_ok r2 hf.2, ?_⟩))
        show Q (.bl (!L2.inV x' vs)) H
        rw [anyP_ok rx r2]
        exact p.val s (.bl _)
      · split at p
        · rename_i zs hz
          obtain ⟨a2, ws, e1, hq2, r3⟩ := lst_ok s ry hz
          split at p
          · rename_i d ds h1 h2
            obtain ⟨a1, a2, a3⟩ := toD_ok s rx h1
            obtain ⟨b1, b2, b3⟩ := toDs_ok (fun h e => toD_ok s h e) r3 h2
            subst e1
            refine .inr (.inr (.inr ⟨d, ds, a1, .lst hq2 b1, ?_, ?_, p.val s (.bl _)⟩))
            · unfold SeqAt.shaped; rw [a2, decide_eq_true a3]; rfl
            · unfold SeqAt.shaped
              rw [decide_eq_true (show (PyData.list ds).depth ≤ 64 by simp only [PyData.depth]; omega)]
              simp only [PyData.canLay0, b2]
              rfl
          · exact p.elim
        · exact p.elim
    · exact p.elim
end

/-! ## slices -/
abbrev FO := Env → Store → R (Option Int)
def noO : FO := fun _ st => .ok none st
def asI (v : PV) (st : Store) : R (Option Int) := match v with
  | .int i => .ok (some i) st
  | _ => .no
def someO (f : FE) : FO := fun e st => (f e st).bind asI
def sliF (fo : FE) (fl fh : FO) : FE := fun e st => (fo e st).bind fun o s1 => (fl e s1).bind fun l s2 => (fh e s2).bind fun h s3 => R.of (slV o l h s3)
section
variable {X : Cx} {W : WX} {ca : Ca} {pos p2 : Pos}
structure JO (X : Cx) (W : WX) (ca : Ca) (e : Option Expr) (f : FO) : Prop where
  ex : ∃ t, L2.PO X e t ∧ ∀ σ H m env st Q, SR X.K ca H m st → ER X.K ca H m env σ → Post X.K ca (fun _ _ a b => a = b) (EW W ca σ) m H Q (f env st) → t σ H Q
theorem jo_none : JO X W ca none noO := ⟨_, po_none, fun σ H m env st Q s e h => h.ok s rfl⟩
theorem jo_some {e : Expr} {f : FE} (he : JE X W ca e f) : JO X W ca (some e) (someO f) := by
  obtain ⟨t, p, r⟩ := he.ex
  refine ⟨_, po_some p, fun σ H m env st Q s e h => ?_⟩
  refine r σ H m env st _ s e (Post.bind h fun x st1 m1 x' H1 p1 k1 s1 r1 h1 => ?_)
  cases r1 with
  | int i => exact ⟨i, rfl, h1.ok s1 rfl⟩
  | _ => exact h1.elim
theorem je_sl {e : Expr} {lo hi : Option Expr} {fo : FE} {fl fh : FO} (he : JE X W ca e fo) (hl : JO X W ca lo fl) (hh : JO X W ca hi fh) : JE X W ca (.Subscript e (.Slice lo hi none p2) pos) (sliF fo fl fh) := by
  obtain ⟨t, p, r⟩ := he.ex
  obtain ⟨t1, p1, r1⟩ := hl.ex
  obtain ⟨t2, p2, r2⟩ := hh.ex
  refine ⟨_, pe_slice (SlR.or sl_str (SlR.or sl_tupA sl_list)) p p1 p2, fun σ H m env st Q s e h => ?_⟩
  refine r σ H m env st _ s e (Post.bind h fun x st1 m1 x' H1 q1 k1 s1 rr1 h1 => ?_)
  refine r1 σ H1 m1 env st1 _ s1 (e.mono q1 k1) (Post.bind h1 fun l st2 m2 l' H2 q2 k2 s2 rr2 h2 => ?_)
  refine r2 σ H2 m2 env st2 _ s2 ((e.mono q1 k1).mono q2 k2) (Post.bind h2 fun u st3 m3 u' H3 q3 k3 s3 rr3 h3 => ?_)
  obtain rfl : l = l' := rr2
  obtain rfl : u = u' := rr3
  have rx := rr1.mono (q2.trans q3) (k2.trans k3)
  have hp := h3.of
  unfold slV at hp
  split at hp
  · cases rx
    rename_i z
    split at hp
    · rename_i hz
      exact .inl ⟨z, rfl, hz, hp.val s3 (.str _)⟩
    · exact hp.elim
  · cases rx with
    | tup hs rr =>
      rename_i xs a vs
      refine .inr (.inl ⟨a, vs, rfl, hs, fun e => ?_, fun _ q hq => hp.newT s3 (cut_ok rr l u) hq⟩)
      have ew : cutP xs l u = xs := by
        unfold cutP
        rw [rr.length, e.1, e.2, Nat.sub_zero, List.drop_zero, List.take_of_length_le (by rw [rr.length]; exact Nat.le_refl _)]
      rw [ew] at hp
      exact hp.val s3 (.tup hs rr)
  · rename_i v _ _
    cases he : lstAt st3 x with
    | none => rw [he] at hp; exact hp.elim
    | some xs =>
      rw [he] at hp
      obtain ⟨a, vs, rfl, hq, rr⟩ := lst_ok s3 rx he
      exact .inr (.inr ⟨a, vs, rfl, hq, fun q hq' => hp.newL s3 (cut_ok rr l u) hq'⟩)
end
end
end FL
end
section
set_option linter.all false
set_option maxRecDepth 100000
namespace FL
open PySem PySem.Spec PyProof.Rows L2
noncomputable section
/-! ## methods of built-in types -/
def tyOk (T : String) (o : PV) (st : Store) : Bool := match o with
  | .str _ => T == "str"
  | .frz _ => T == "list"
  | .ref n => match st[n]? with
    | some (.lst _) => T == "list"
    | some (.dK _) => T == "dict"
    | _ => false
  | _ => false
def bmF' (T : String) (g : PV → List PV → Store → O PV) (fo : FE) (f : FA) : FE := fun e st => (fo e st).bind fun o s1 => if tyOk T o s1 = true then (f e s1).bind fun xs s2 => R.of (g o xs s2) else .no
section
variable {K : PySem.W.Frag} {ca : Ca} {m m' : List Addr} {H H' : Hp} {st : Store}
theorem ty_ok (s : SR K ca H m st) {o : PV} {v : V} {T : String} (r : VR K ca H m o v) (e : tyOk T o st = true) : tyV K T v H := by
  cases r with
  | str x => exact eq_of_beq e
  | frz h r => exact .inl ⟨eq_of_beq e, _, h.sq⟩
  | ref hn =>
    simp only [tyOk] at e
    split at e
    · rename_i xs hx
      obtain ⟨vs, e1, _⟩ := getL s hx hn
      exact .inl ⟨eq_of_beq e, _, SqL.of e1⟩
    · rename_i xs hx
      obtain ⟨vs, e1, _⟩ := s.at hx hn
      exact .inr (.inr (.inl ⟨eq_of_beq e, .inl ⟨_, e1⟩⟩))
    · cases e
  | _ => cases e
end
section
variable {X : Cx} {W : WX} {ca : Ca}
theorem je_bm {o e : Expr} {es : List Expr} {name : Str} {apos cpos : Pos} {T id : String} {g : PV → List PV → Store → O PV} {fo : FE} {fa : FA} (pa : PlainAttrs T) (slot : Slot T name id) (hty : typeOf (.builtin id) = pure (.type "method_descriptor")) (hm : BmF X ca T id g) (ho : JE X W ca o fo) (ha : JA X W ca (e :: es) fa)
    (hbase : attributeBase o name X.env (eval o X.env) = eval o X.env := by rfl)
    (hfew : ((backTo cpos (starEach (e :: es) X.env)).all (fun x => !x.1) && (backToKw cpos (keywordEach [] X.env)).all (fun x => x.1.isSome)
      && decide ((e :: es).length + ([] : List Keyword).length + (if ([] : List Keyword).isEmpty then 0 else 1) < 30)) = true := by rfl)
    (hline : (apos.endLine == cpos.line) = true := by rfl) (hs : starEach (e :: es) X.env = (false, eval e X.env) :: starEach es X.env := by rfl) (hplain : (backTo cpos (starEach es X.env)).any (·.1) = false := by rfl) :
    JE X W ca (.Call (.Attribute o name apos) (e :: es) [] cpos) (bmF' T g fo fa) := by
  obtain ⟨t, p, r⟩ := ho.ex
  obtain ⟨ta, pA, ra⟩ := ha.ex
  obtain ⟨rr, pm, rm⟩ := hm
  refine ⟨_, pe_bm pa slot hty pm p pA hbase hfew hline hs hplain, fun σ H m env st Q s e h => ?_⟩
  refine r σ H m env st _ s e (Post.bind h fun x st1 m1 x' H1 p1 k1 s1 r1 h1 => ?_)
  split at h1
  · rename_i ht
    refine ⟨ty_ok s1 r1 ht, ra σ H1 m1 env st1 _ s1 (e.mono p1 k1) (Post.bind h1 fun xs st2 m2 vs H2 p2 k2 s2 r2 h2 => ?_)⟩
    exact rm H2 m2 st2 x x' xs vs Q s2 (r1.mono p2 k2) r2 h2.of
  · exact h1.elim
theorem je_bm0 {o : Expr} {name : Str} {apos cpos : Pos} {T id : String} {g : PV → List PV → Store → O PV} {fo : FE} (pa : PlainAttrs T) (slot : Slot T name id) (hty : typeOf (.builtin id) = pure (.type "method_descriptor")) (hm : BmF X ca T id g) (ho : JE X W ca o fo)
    (hbase : attributeBase o name X.env (eval o X.env) = eval o X.env := by rfl) (hline : (apos.endLine == cpos.line) = true := by rfl) : JE X W ca (.Call (.Attribute o name apos) [] [] cpos) (bmF' T g fo nilA) := by
  obtain ⟨t, p, r⟩ := ho.ex
  obtain ⟨rr, pm, rm⟩ := hm
  refine ⟨_, pe_bm0 pa slot hty pm p hbase hline, fun σ H m env st Q s e h => ?_⟩
  refine r σ H m env st _ s e (Post.bind h fun x st1 m1 x' H1 p1 k1 s1 r1 h1 => ?_)
  split at h1
  · rename_i ht
    refine ⟨ty_ok s1 r1 ht, ?_⟩
    exact rm H1 m1 st1 x x' [] [] Q s1 r1 .nil h1.of
  · exact h1.elim
/-- a method's rule by its weaker form -/
theorem BmF.mk {T id : String} {rr : V → List V → Hp → VK → Prop} {g : PV → List PV → Store → O PV} (h : MtR X id rr)
    (q : ∀ H m st o o' xs vs Q, SR X.K ca H m st → VR X.K ca H m o o' → VRs X.K ca H m xs vs → Post0 X.K ca (VR X.K ca) m H Q (g o xs st) → rr o' vs H Q) : BmF X ca T id g := ⟨_, h, q⟩
/-! ### lists -/
def appendV (o : PV) (xs : List PV) (st : Store) : O PV := match o, xs with
  | .ref n, [y] => match st[n]? with
    | some (.lst zs) => if zs.length < sizeLine then some (.non, st.set n (.lst (zs ++ [y]))) else none
    | _ => none
  | _, _ => none
theorem bm_append : BmF X ca "list" "list.append" appendV := by
  refine BmF.mk mt_append fun H m st o o' xs vs Q s ro rs p => ?_
  unfold appendV at p
  split at p
  · cases ro with
    | ref hn =>
      obtain ⟨v, rfl, r1⟩ := vrs1 rs
      split at p
      · rename_i zs hx
        obtain ⟨vs, e1, r2⟩ := getL s hx hn
        split at p
        · rename_i hz
          exact ⟨_, vs, v, rfl, rfl, e1, by rw [← r2.length]; exact hz, p.setL s hn e1 (r2.append (.cons r1 .nil)) .non⟩
        · exact p.elim
      · exact p.elim
  · exact p.elim
def extendV (o : PV) (xs : List PV) (st : Store) : O PV := match o, xs with
  | .ref n, [.ref k] => match st[n]?, st[k]? with
    | some (.lst zs), some (.lst ys) => if zs.length + ys.length ≤ sizeLine then some (.non, st.set n (.lst (zs ++ ys))) else none
    | _, _ => none
  | _, _ => none
theorem bm_extend : BmF X ca "list" "list.extend" extendV := by
  refine BmF.mk mt_extend fun H m st o o' xs vs Q s ro rs p => ?_
  unfold extendV at p
  split at p
  · cases ro with
    | ref hn =>
      obtain ⟨v, rfl, r1⟩ := vrs1 rs
      cases r1 with
      | ref hk =>
        split at p
        · rename_i zs ys hx hy
          obtain ⟨vs, e1, r2⟩ := getL s hx hn
          obtain ⟨ws, e2, r3⟩ := getL s hy hk
          split at p
          · rename_i hz
            exact ⟨_, _, vs, ws, rfl, rfl, e1, e2, by rw [← r2.length, ← r3.length]; exact hz, p.setL s hn e1 (r2.append r3) .non⟩
          · exact p.elim
        · exact p.elim
  · exact p.elim
def popV (o : PV) (xs : List PV) (st : Store) : O PV := match o, xs with
  | .ref n, [] => match st[n]? with
    | some (.lst zs) => match zs[zs.length - 1]? with
      | some y => some (y, st.set n (.lst zs.dropLast))
      | none => none
    | _ => none
  | _, _ => none
theorem bm_pop : BmF X ca "list" "list.pop" popV := by
  refine BmF.mk mt_pop fun H m st o o' xs vs Q s ro rs p => ?_
  unfold popV at p
  split at p
  · cases ro with
    | ref hn =>
      cases rs
      split at p
      · rename_i zs hx
        obtain ⟨vs, e1, r2⟩ := getL s hx hn
        split at p
        · rename_i y hy
          obtain ⟨w, h1, h2⟩ := r2.get hy
          rw [r2.length] at h1
          refine ⟨_, vs, w, rfl, rfl, e1, h1, ?_⟩
          refine p.setL s hn e1 ?_ h2
          rw [List.dropLast_eq_take, List.dropLast_eq_take, ← r2.length]
          exact r2.take _
        · exact p.elim
      · exact p.elim
  · exact p.elim
def reverseV (o : PV) (xs : List PV) (st : Store) : O PV := match o, xs with
  | .ref n, [] => match st[n]? with
    | some (.lst zs) => some (.non, st.set n (.lst zs.reverse))
    | _ => none
  | _, _ => none
theorem bm_reverse : BmF X ca "list" "list.reverse" reverseV := by
  refine BmF.mk mt_reverse fun H m st o o' xs vs Q s ro rs p => ?_
  unfold reverseV at p
  split at p
  · cases ro with
    | ref hn =>
      cases rs
      split at p
      · rename_i zs hx
        obtain ⟨vs, e1, r2⟩ := getL s hx hn
        exact ⟨_, vs, rfl, rfl, e1, p.setL s hn e1 r2.rev .non⟩
      · exact p.elim
  · exact p.elim
def clearV (o : PV) (xs : List PV) (st : Store) : O PV := match o, xs with
  | .ref n, [] => match st[n]? with
    | some (.lst zs) => some (.non, st.set n (.lst []))
    | _ => none
  | _, _ => none
theorem bm_clear : BmF X ca "list" "list.clear" clearV := by
  refine BmF.mk mt_clear fun H m st o o' xs vs Q s ro rs p => ?_
  unfold clearV at p
  split at p
  · cases ro with
    | ref hn =>
      cases rs
      split at p
      · rename_i zs hx
        obtain ⟨vs, e1, r2⟩ := getL s hx hn
        exact ⟨_, vs, rfl, rfl, e1, p.setL s hn e1 .nil .non⟩
      · exact p.elim
  · exact p.elim
/-! ### texts -/
def joinV (o : PV) (xs : List PV) (st : Store) : O PV := match o, xs with
  | .str a, [v] => match (seqAt st v).bind strsOf with
    | some ys => if (ys.map (·.length)).sum + ys.length * a.length ≤ 16777216 then some (.str (Txt.join a ys), st) else none
    | none => none
  | _, _ => none
theorem bm_join : BmF X ca "str" "str.join" joinV := by
  refine BmF.mk mt_join fun H m st o o' xs vs Q s ro rs p => ?_
  unfold joinV at p
  split at p
  · cases ro
    obtain ⟨v, rfl, r1⟩ := vrs1 rs
    split at p
    · rename_i ys he
      obtain ⟨zs, h1, h2⟩ := Option.bind_eq_some_iff.mp he
      obtain ⟨a, vs, rfl, hq, r2⟩ := seq_ok s r1 h1
      obtain rfl := strs_ok r2 h2
      split at p
      · rename_i hz
        exact ⟨_, a, ys, rfl, rfl, hq, hz, p.val s (.str _)⟩
      · exact p.elim
    · exact p.elim
  · exact p.elim
/-- a method text × text -/
def t2V (f : Str → Str → PV) (o : PV) (xs : List PV) (st : Store) : O PV := match o, xs with
  | .str a, [.str b] => some (f a b, st)
  | _, _ => none
abbrev countSV := t2V fun a b => .int (Txt.count a b)
abbrev findSV := t2V fun a b => .int (Txt.find a b)
abbrev startsV := t2V fun a b => .bl (Txt.startswith a b)
abbrev endsV := t2V fun a b => .bl (Txt.endswith a b)
theorem bm_t2 {id : String} {f : Str → Str → PV} {f' : Str → Str → V} (hf : ∀ H m a b, VR X.K ca H m (f a b) (f' a b)) (h : MtR X id (fun x xs H Q => ∃ a b, x = .str a ∧ xs = [.str b] ∧ Q (f' a b) H)) : BmF X ca "str" id (t2V f) := by
  refine BmF.mk h fun H m st o o' xs vs Q s ro rs p => ?_
  unfold t2V at p
  split at p
  · cases ro
    obtain ⟨v, rfl, r1⟩ := vrs1 rs
    cases r1
    exact ⟨_, _, rfl, rfl, p.val s (hf _ _ _ _)⟩
  · exact p.elim
theorem bm_countS : BmF X ca "str" "str.count" countSV := bm_t2 (fun _ _ _ _ => .int _) mt_count
theorem bm_findS : BmF X ca "str" "str.find" findSV := bm_t2 (fun _ _ _ _ => .int _) mt_find
theorem bm_starts : BmF X ca "str" "str.startswith" startsV := bm_t2 (fun _ _ _ _ => .bl _) mt_startswith
theorem bm_ends : BmF X ca "str" "str.endswith" endsV := bm_t2 (fun _ _ _ _ => .bl _) mt_endswith
def starts3V (o : PV) (xs : List PV) (st : Store) : O PV := match o, xs with
  | .str a, [.str b, .int i] => some (.bl (Txt.startswith3 a b i), st)
  | _, _ => none
theorem bm_starts3 : BmF X ca "str" "str.startswith" starts3V := by
  refine BmF.mk mt_startswith3 fun H m st o o' xs vs Q s ro rs p => ?_
  unfold starts3V at p
  split at p
  · cases ro
    obtain ⟨v, w, rfl, r1, r2⟩ := vrs2 rs
    cases r1
    cases r2
    exact ⟨_, _, _, rfl, rfl, p.val s (.bl _)⟩
  · exact p.elim
end

/-! ## what is walked -/
def gdOf (v : PV) (st : Store) : List (Nat × PO) := match v with
  | .ref n => match st[n]? with
    | some o => [(n, o)]
    | none => []
  | _ => []
/-- a list or a tuple, item by item -/
def seqI (f : FE) : FI := fun e st => (f e st).bind fun v s1 => match seqAt s1 v with
  | some xs => .ok ⟨xs, gdOf v s1⟩ s1
  | none => .no
def intL (lo c : Int) (n : Nat) : List PV := (List.range n).map fun i => .int (lo + (i : Nat) * c)
open Classical in
def rng1I (f : FA) : FI := fun e st => (f e st).bind fun xs s1 => match xs with
  | [.int j] => @ite (R Wk) (-(2 ^ 62) ≤ j ∧ j < 2 ^ 62) (Classical.propDecidable _) (.ok ⟨intL 0 1 j.toNat, []⟩ s1) .no
  | _ => .no
theorem rng1I_ok {f : FA} {e : Env} {s s' : Store} {j : Int} (h : f e s = .ok [.int j] s') (h1 : -(2 ^ 62) ≤ j) (h2 : j < 2 ^ 62) : rng1I f e s = .ok ⟨intL 0 1 j.toNat, []⟩ s' := by
  unfold rng1I
  rw [h]
  exact if_pos ⟨h1, h2⟩
open Classical in
def rng2I (f : FA) : FI := fun e st => (f e st).bind fun xs s1 => match xs with
  | [.int i, .int j] => @ite (R Wk) (-(2 ^ 62) ≤ i ∧ i < 2 ^ 62 ∧ -(2 ^ 62) ≤ j ∧ j < 2 ^ 62) (Classical.propDecidable _) (.ok ⟨intL i 1 (j - i).toNat, []⟩ s1) .no
  | _ => .no
theorem rng2I_ok {f : FA} {e : Env} {s s' : Store} {i j : Int} (h : f e s = .ok [.int i, .int j] s') (h1 : -(2 ^ 62) ≤ i) (h2 : i < 2 ^ 62) (h3 : -(2 ^ 62) ≤ j) (h4 : j < 2 ^ 62) : rng2I f e s = .ok ⟨intL i 1 (j - i).toNat, []⟩ s' := by
  unfold rng2I
  rw [h]
  exact if_pos ⟨h1, h2, h3, h4⟩
open Classical in
def rng3I (f : FA) : FI := fun e st => (f e st).bind fun xs s1 => match xs with
  | [.int i, .int j, .int c] => if ∃ n, RgC i j c n then .ok ⟨intL i c (Builtin.Range.rangeSize i j c).toNat, []⟩ s1 else .no
  | _ => .no
def enumL : List PV → Nat → List PV
  | [], _ => []
  | x :: r, i => .tup [.int (i : Nat), x] :: enumL r (i + 1)
def enumI (f : FA) : FI := fun e st => (f e st).bind fun xs s1 => match xs with
  | [v] => match lstAt s1 v with
    | some ys => .ok ⟨enumL ys 0, gdOf v s1⟩ s1
    | none => .no
  | _ => .no
def zipL : List PV → List PV → List PV
  | x :: r, y :: q => .tup [x, y] :: zipL r q
  | _, _ => []
def zipI (f : FA) : FI := fun e st => (f e st).bind fun xs s1 => match xs with
  | [.tup ys, .tup zs] => .ok ⟨zipL ys zs, []⟩ s1
  | [v, w] => match lstAt s1 v, lstAt s1 w with
    | some ys, some zs => .ok ⟨zipL ys zs, gdOf v s1 ++ gdOf w s1⟩ s1
    | _, _ => .no
  | _ => .no
def revI (f : FE) : FI := fun e st => (f e st).bind fun v s1 => match seqAt s1 v with
  | some xs => .ok ⟨xs.reverse, gdOf v s1⟩ s1
  | none => .no
def strI (f : FE) : FI := fun e st => (f e st).bind fun v s1 => match v with
  | .str x => .ok ⟨x.cps.toList.map fun c => .str ⟨#[c]⟩, []⟩ s1
  | _ => .no
section
variable {X : Cx} {W : WX} {ca : Ca} {tg : Expr}
/-- a list stays while its guard holds -/
theorem lst_stay {K : PySem.W.Frag} {H H' : Hp} {m m' : List Addr} {st st' : Store} {v : PV} {a : Addr} {xs : List PV} (s : SR K ca H m st) (r : VR K ca H m v (.ref a)) (e : lstAt st v = some xs) (p : m <+: m') (k : Keep K H H') (s' : SR K ca H' m' st') (g : GdOk (gdOf v st) st') :
    ∃ vs, SqL K H' a vs ∧ VRs K ca H' m' xs vs := by
  have r' := r.mono p k
  have e' : lstAt st' v = some xs := by
    cases v with
    | frz ys => exact e
    | ref n =>
      simp only [lstAt] at e ⊢
      cases q : st[n]? with
      | none => rw [q] at e; cases e
      | some o =>
        rw [q] at e
        have := g (n, o) (by simp only [gdOf, q]; exact List.mem_singleton.mpr rfl)
        rw [this]
        exact e
    | _ => cases e
  obtain ⟨b, vs, e1, e2, e3⟩ := lst_ok s' r' e'
  cases e1
  exact ⟨vs, e2, e3⟩
theorem seq_stay {K : PySem.W.Frag} {H H' : Hp} {m m' : List Addr} {st st' : Store} {v : PV} {a : Addr} {xs : List PV} (s : SR K ca H m st) (r : VR K ca H m v (.ref a)) (e : seqAt st v = some xs) (p : m <+: m') (k : Keep K H H') (s' : SR K ca H' m' st') (g : GdOk (gdOf v st) st') :
    (∃ ys, v = .tup ys ∧ ∃ vs, SqT K H' a vs ∧ VRs K ca H' m' xs vs) ∨ (lstAt st v = some xs ∧ ∃ vs, SqL K H' a vs ∧ VRs K ca H' m' xs vs) := by
  cases v with
  | tup ys =>
    simp only [seqAt, Option.some.injEq] at e
    subst e
    cases r with
    | tup h rr => exact .inl ⟨ys, rfl, _, k.t _ _ h, rr.mono p k⟩
  | frz ys => exact .inr ⟨e, lst_stay s r e p k s' g⟩
  | ref n => exact .inr ⟨e, lst_stay s r e p k s' g⟩
  | _ => cases e
theorem itr_list {K : PySem.W.Frag} {H : Hp} {m : List Addr} {st : Store} {v : PV} {a : Addr} {xs : List PV} (s : SR K ca H m st) (r : VR K ca H m v (.ref a)) (e : lstAt st v = some xs) : ItR K ca H m ⟨xs, gdOf v st⟩ (Itl K a) := by
  intro i m' H' st' p k s' g
  obtain ⟨vs, h1, h2⟩ := lst_stay s r e p k s' g
  refine ⟨fun x hx => ?_, fun hi => ⟨vs, h1, by rw [← h2.length]; exact hi⟩⟩
  obtain ⟨w, e1, e2⟩ := h2.get hx
  refine ⟨⟨vs, w, h1, e1⟩, fun y H'' ⟨eH, hy⟩ => ?_⟩
  subst eH
  have := (hy vs h1).symm.trans e1
  cases this
  exact ⟨Keep.refl, s', e2⟩
theorem itr_tup {K : PySem.W.Frag} {H : Hp} {m : List Addr} {a : Addr} {xs : List PV} (r : VR K ca H m (.tup xs) (.ref a)) (gd : List (Nat × PO)) : ItR K ca H m ⟨xs, gd⟩ (Itt K a) := by
  intro i m' H' st' p k s' g
  cases r with
  | tup h rr =>
    rename_i vs
    have h1 := k.t _ _ h
    have h2 := rr.mono p k
    refine ⟨fun x hx => ?_, fun hi => ⟨vs, h1, by rw [← h2.length]; exact hi⟩⟩
    obtain ⟨w, e1, e2⟩ := h2.get hx
    refine ⟨⟨vs, w, h1, e1⟩, fun y H'' ⟨eH, hy⟩ => ?_⟩
    subst eH
    have := (hy vs h1).symm.trans e1
    cases this
    exact ⟨Keep.refl, s', e2⟩
theorem pi_seq {l : Expr} {tl : TE} (hl : PE X l tl) : PI X tg l (fun σ H R => tl σ H fun x H1 => ∃ a, x = .ref a ∧ (((∃ xs, SqL X.K H1 a xs) ∧ R (Itl X.K a) H1) ∨ ((∃ xs, SqT X.K H1 a xs) ∧ R (Itt X.K a) H1))) := by
  refine ⟨fun pins s σ H R I h => ?_⟩
  refine thn (hl.run pins s σ H _ I h) fun v s1 ⟨x, H1, I1, r1, q1⟩ => ?_
  obtain ⟨a, e, ⟨⟨xs, hq⟩, q⟩ | ⟨⟨xs, hq⟩, q⟩⟩ := q1
  · subst e
    cases r1
    obtain ⟨its, rv, p, hz⟩ := I1.list hq
    refine wpAny_pyIter_list p.isList ?_
    refine ⟨s1.heap.objs.size, [s1.heap.objs.size], _, _, H1, rfl, I1.kept (t' := s1.toks) fun b o e => Heap.get?_push_of_some _ e, turn_list a _, ⟨_, Heap.get?_push_size _ rfl, rfl, rfl⟩, fun b hb => ?_, q⟩
    have e : b = s1.heap.objs.size := by simpa using hb
    subst e
    exact I1.fpOk (Nat.le_refl _) (I1.hok.fresh (Nat.le_refl _))
  · subst e
    cases r1
    obtain ⟨its, rv, p, hz⟩ := I1.tuple hq
    refine wpAny_pyIter_tuple (show s1.heap.IsTuple a its.toArray from p) ?_
    refine ⟨s1.heap.objs.size, [s1.heap.objs.size], _, _, H1, rfl, I1.kept (t' := s1.toks) fun b o e => Heap.get?_push_of_some _ e, turn_tuple a _, ⟨_, Heap.get?_push_size _ rfl, rfl, rfl⟩, fun b hb => ?_, q⟩
    have e : b = s1.heap.objs.size := by simpa using hb
    subst e
    exact I1.fpOk (Nat.le_refl _) (I1.hok.fresh (Nat.le_refl _))
theorem ji_seq {l : Expr} {f : FE} (hl : JE X W ca l f) : JI X W ca tg l (seqI f) := by
  obtain ⟨t, p, r⟩ := hl.ex
  refine ⟨_, pi_seq p, fun σ H m env st Q s e h => ?_⟩
  refine r σ H m env st _ s e (Post.bind h fun x st1 m1 x' H1 p1 k1 s1 r1 h1 => ?_)
  split at h1
  · rename_i xs he
    obtain ⟨a, vs, rfl, hq, r2⟩ := seq_ok s1 r1 he
    refine ⟨a, rfl, ?_⟩
    cases x with
    | tup ys =>
      simp only [seqAt, Option.some.injEq] at he
      subst he
      cases r1 with
      | tup hh rr => exact .inr ⟨⟨_, hh⟩, h1 m1 _ H1 (List.prefix_refl _) Keep.refl s1 (itr_tup (.tup hh rr) _)⟩
    | frz ys =>
      obtain ⟨b, ws, e1, e2, e3⟩ := lst_ok s1 r1 he
      cases e1
      exact .inl ⟨⟨_, e2⟩, h1 m1 _ H1 (List.prefix_refl _) Keep.refl s1 (itr_list s1 r1 he)⟩
    | ref n =>
      obtain ⟨b, ws, e1, e2, e3⟩ := lst_ok s1 r1 he
      cases e1
      exact .inl ⟨⟨_, e2⟩, h1 m1 _ H1 (List.prefix_refl _) Keep.refl s1 (itr_list s1 r1 he)⟩
    | _ => cases he
  · exact h1.elim
theorem intL_get {lo c : Int} {n i : Nat} : (intL lo c n)[i]? = if i < n then some (.int (lo + (i : Nat) * c)) else none := by
  unfold intL
  rw [List.getElem?_map]
  by_cases h : i < n
  · rw [List.getElem?_range h, if_pos h]; rfl
  · rw [if_neg h, List.getElem?_eq_none (by simpa using h)]; rfl
theorem intL_len {lo c : Int} {n : Nat} : (intL lo c n).length = n := by unfold intL; rw [List.length_map, List.length_range]
theorem itr_rng {K : PySem.W.Frag} {H : Hp} {m : List Addr} {lo : Int} {n : Nat} : ItR K ca H m ⟨intL lo 1 n, []⟩ (Itr lo n) := by
  intro i m' H' st' p k s' g
  refine ⟨fun x hx => ?_, fun hi => by rw [intL_len] at hi; exact hi⟩
  rw [intL_get] at hx
  split at hx
  · rename_i hi
    cases hx
    refine ⟨hi, fun y H'' ⟨eH, hy⟩ => ?_⟩
    subst eH hy
    rw [Int.mul_one]
    exact ⟨Keep.refl, s', .int _⟩
  · cases hx
theorem itr_rngc {K : PySem.W.Frag} {H : Hp} {m : List Addr} {lo c : Int} {n : Nat} : ItR K ca H m ⟨intL lo c n, []⟩ (Itc lo c n) := by
  intro i m' H' st' p k s' g
  refine ⟨fun x hx => ?_, fun hi => by rw [intL_len] at hi; exact hi⟩
  rw [intL_get] at hx
  split at hx
  · rename_i hi
    cases hx
    refine ⟨hi, fun y H'' ⟨eH, hy⟩ => ?_⟩
    subst eH hy
    exact ⟨Keep.refl, s', .int _⟩
  · cases hx
theorem vrs3 {K : PySem.W.Frag} {H : Hp} {m : List Addr} {x y z : PV} {vs : List V} (r : VRs K ca H m [x, y, z] vs) : ∃ v w u, vs = [v, w, u] ∧ VR K ca H m x v ∧ VR K ca H m y w ∧ VR K ca H m z u := by
  cases r with
  | cons h r => cases r with
    | cons h2 r => cases r with
      | cons h3 r => cases r; exact ⟨_, _, _, rfl, h, h2, h3⟩
theorem ji_rng1 {a : Expr} {fa : FA} {p pos : Pos} (hm : X.mg "range" = none) (ha : JA X W ca [a] fa) (hg : Gl X "range" := by rfl) (hs : starEach [a] X.env = [(false, eval a X.env)] := by rfl) : JI X W ca tg (.Call (.Name "range" p) [a] [] pos) (rng1I fa) := by
  obtain ⟨t, pa, r⟩ := ha.ex
  refine ⟨_, pi_range1 hg hm pa hs, fun σ H m env st Q s e h => ?_⟩
  refine r σ H m env st _ s e (Post.bind h fun x st1 m1 x' H1 p1 k1 s1 r1 h1 => ?_)
  split at h1
  · obtain ⟨v, rfl, q⟩ := vrs1 r1
    cases q
    split at h1
    · rename_i hz
      exact ⟨_, rfl, hz.1, hz.2, h1 m1 _ H1 (List.prefix_refl _) Keep.refl s1 itr_rng⟩
    · exact h1.elim
  · exact h1.elim
theorem ji_rng2 {a b : Expr} {fa : FA} {p pos : Pos} (hm : X.mg "range" = none) (ha : JA X W ca [a, b] fa) (hg : Gl X "range" := by rfl) (hs : starEach [a, b] X.env = [(false, eval a X.env), (false, eval b X.env)] := by rfl) (hs2 : starEach [b] X.env = [(false, eval b X.env)] := by rfl) : JI X W ca tg (.Call (.Name "range" p) [a, b] [] pos) (rng2I fa) := by
  obtain ⟨t, pa, r⟩ := ha.ex
  refine ⟨_, pi_range2 hg hm pa hs hs2, fun σ H m env st Q s e h => ?_⟩
  refine r σ H m env st _ s e (Post.bind h fun x st1 m1 x' H1 p1 k1 s1 r1 h1 => ?_)
  split at h1
  · obtain ⟨v, w, rfl, q, q2⟩ := vrs2 r1
    cases q
    cases q2
    split at h1
    · rename_i hz
      exact ⟨_, _, rfl, hz, h1 m1 _ H1 (List.prefix_refl _) Keep.refl s1 itr_rng⟩
    · exact h1.elim
  · exact h1.elim
theorem ji_rng3 {a b c : Expr} {fa : FA} {p pos : Pos} (hm : X.mg "range" = none) (ha : JA X W ca [a, b, c] fa) (hg : Gl X "range" := by rfl) (hs : starEach [a, b, c] X.env = (false, eval a X.env) :: starEach [b, c] X.env := by rfl) (hpl : (backTo pos (starEach [b, c] X.env)).any (·.1) = false := by rfl) : JI X W ca tg (.Call (.Name "range" p) [a, b, c] [] pos) (rng3I fa) := by
  obtain ⟨t, pa, r⟩ := ha.ex
  refine ⟨_, pi_range3 hg hm pa hs hpl, fun σ H m env st Q s e h => ?_⟩
  refine r σ H m env st _ s e (Post.bind h fun x st1 m1 x' H1 p1 k1 s1 r1 h1 => ?_)
  split at h1
  · obtain ⟨v, w, u, rfl, q, q2, q3⟩ := vrs3 r1
    cases q
    cases q2
    cases q3
    split at h1
    · rename_i hz
      obtain ⟨n, hn⟩ := hz
      have e1 := hn.2.2.2
      rw [e1, Int.toNat_natCast] at h1
      exact ⟨_, _, _, n, rfl, hn, h1 m1 _ H1 (List.prefix_refl _) Keep.refl s1 itr_rngc⟩
    · exact h1.elim
  · exact h1.elim
theorem enumL_get : ∀ {xs : List PV} {k i : Nat}, (enumL xs k)[i]? = (xs[i]?).map fun x => .tup [.int ((k + i : Nat) : Int), x]
  | [], _, _ => by simp [enumL]
  | x :: r, k, 0 => by simp [enumL]
  | x :: r, k, i + 1 => by
    rw [enumL, List.getElem?_cons_succ, List.getElem?_cons_succ, enumL_get (xs := r)]
    rw [show k + 1 + i = k + (i + 1) by omega]
theorem enumL_len : ∀ {xs : List PV} {k : Nat}, (enumL xs k).length = xs.length
  | [], _ => rfl
  | x :: r, k => by rw [enumL, List.length_cons, List.length_cons, enumL_len]
theorem itr_enum {K : PySem.W.Frag} {H : Hp} {m : List Addr} {st : Store} {v : PV} {a : Addr} {xs : List PV} (s : SR K ca H m st) (r : VR K ca H m v (.ref a)) (e : lstAt st v = some xs) : ItR K ca H m ⟨enumL xs 0, gdOf v st⟩ (Ite K a) := by
  intro i m' H' st' p k s' g
  obtain ⟨vs, h1, h2⟩ := lst_stay s r e p k s' g
  refine ⟨fun x hx => ?_, fun hi => ⟨vs, h1, by rw [← h2.length]; rw [enumL_len] at hi; exact hi⟩⟩
  rw [enumL_get] at hx
  obtain ⟨z, hz, rfl⟩ := Option.map_eq_some_iff.mp hx
  obtain ⟨w, e1, e2⟩ := h2.get hz
  refine ⟨⟨vs, w, h1, e1⟩, fun y H'' ⟨T, u, eT, hT, eH, hy⟩ => ?_⟩
  subst eT eH
  have := (hy vs h1).symm.trans e1
  cases this
  obtain ⟨q1, q2, q3⟩ := upd_t s' hT (xs := [.int (i : Nat), z]) (vs := [.int (i : Nat), w]) (.cons (.int _) (.cons e2 .nil))
  rw [Nat.zero_add]
  exact ⟨q1, q2, q3⟩
theorem ji_enum {a : Expr} {fa : FA} {p pos tpos : Pos} {elts : List Expr} {kk : Nat} (hm : X.mg "enumerate" = none) (ha : JA X W ca [a] fa) (hg : Gl X "enumerate" := by rfl) (hs : starEach [a] X.env = [(false, eval a X.env)] := by rfl) : JI X W ca (.Tuple elts kk tpos) (.Call (.Name "enumerate" p) [a] [] pos) (enumI fa) := by
  obtain ⟨t, pa, r⟩ := ha.ex
  refine ⟨_, pi_enum hg hm pa hs, fun σ H m env st Q s e h => ?_⟩
  refine r σ H m env st _ s e (Post.bind h fun x st1 m1 x' H1 p1 k1 s1 r1 h1 => ?_)
  split at h1
  · obtain ⟨v, rfl, q⟩ := vrs1 r1
    split at h1
    · rename_i ys he
      obtain ⟨a, vs, rfl, hq, r2⟩ := lst_ok s1 q he
      exact ⟨a, vs, rfl, hq, h1 m1 _ H1 (List.prefix_refl _) Keep.refl s1 (itr_enum s1 q he)⟩
    · exact h1.elim
  · exact h1.elim
theorem zipL_get : ∀ {xs ys : List PV} {i : Nat} {z : PV}, (zipL xs ys)[i]? = some z → ∃ x y, xs[i]? = some x ∧ ys[i]? = some y ∧ z = .tup [x, y]
  | [], ys, _, _, h => by simp [zipL] at h
  | _ :: _, [], _, _, h => by simp [zipL] at h
  | x :: r, y :: q, 0, z, h => by simp [zipL] at h; exact ⟨x, y, rfl, rfl, h.symm⟩
  | x :: r, y :: q, i + 1, z, h => by
    rw [zipL, List.getElem?_cons_succ] at h
    obtain ⟨a, b, h1, h2, h3⟩ := zipL_get h
    exact ⟨a, b, by simpa using h1, by simpa using h2, h3⟩
theorem zipL_len : ∀ {xs ys : List PV}, (zipL xs ys).length = min xs.length ys.length
  | [], ys => by simp [zipL]
  | _ :: _, [] => by simp [zipL]
  | x :: r, y :: q => by rw [zipL, List.length_cons, List.length_cons, List.length_cons, zipL_len]; omega
theorem ji_zip {a b : Expr} {fa : FA} {p pos tpos : Pos} {elts : List Expr} {kk : Nat} (hm : X.mg "zip" = none) (ha : JA X W ca [a, b] fa) (hg : Gl X "zip" := by rfl)
    (hz : ∀ {ta : TA}, PA X [a, b] ta → PI X (.Tuple elts kk tpos) (.Call (.Name "zip" p) [a, b] [] pos) (RZ.iZipA X.K ta)) : JI X W ca (.Tuple elts kk tpos) (.Call (.Name "zip" p) [a, b] [] pos) (zipI fa) := by
  obtain ⟨t, pa, r⟩ := ha.ex
  refine ⟨_, hz pa, fun σ H m env st Q s e h => ?_⟩
  refine r σ H m env st _ s e (Post.bind h fun x st1 m1 x' H1 p1 k1 s1 r1 h1 => ?_)
  split at h1
  · obtain ⟨v, w, rfl, q1, q2⟩ := vrs2 r1
    cases q1 with
    | tup hs1 rr1 => cases q2 with
      | tup hs2 rr2 =>
        refine ⟨_, _, _, _, rfl, .inr ⟨hs1, hs2, h1 m1 _ H1 (List.prefix_refl _) Keep.refl s1 fun i m' H' st' p k s' g => ?_⟩⟩
        have g1 := k.t _ _ hs1
        have g2 := k.t _ _ hs2
        have t1 := rr1.mono p k
        have t2 := rr2.mono p k
        refine ⟨fun z hz => ?_, fun hi => ⟨_, _, g1, g2, ?_⟩⟩
        · obtain ⟨x, y, e1, e2, rfl⟩ := zipL_get hz
          obtain ⟨x', a1, a2⟩ := t1.get e1
          obtain ⟨y', b1, b2⟩ := t2.get e2
          refine ⟨⟨_, _, x', y', g1, g2, a1, b1⟩, fun z H'' ⟨T, u, u', eT, hT, eH, hy1, hy2⟩ => ?_⟩
          subst eT eH
          have i1 := (hy1 _ g1).symm.trans a1
          have i2 := (hy2 _ g2).symm.trans b1
          cases i1
          cases i2
          exact upd_t s' hT (.cons a2 (.cons b2 .nil))
        · simp only [zipL_len] at hi
          rw [← t1.length, ← t2.length]
          omega
  · obtain ⟨v, w, rfl, q1, q2⟩ := vrs2 r1
    split at h1
    · rename_i _ _ ys zs he1 he2
      obtain ⟨a1, vs1, rfl, hq1, rr1⟩ := lst_ok s1 q1 he1
      obtain ⟨a2, vs2, rfl, hq2, rr2⟩ := lst_ok s1 q2 he2
      refine ⟨_, _, _, _, rfl, .inl ⟨hq1, hq2, h1 m1 _ H1 (List.prefix_refl _) Keep.refl s1 fun i m' H' st' p k s' g => ?_⟩⟩
      obtain ⟨ws1, g1, t1⟩ := lst_stay s1 q1 he1 p k s' fun z hz => g z (List.mem_append_left _ hz)
      obtain ⟨ws2, g2, t2⟩ := lst_stay s1 q2 he2 p k s' fun z hz => g z (List.mem_append_right _ hz)
      refine ⟨fun z hz => ?_, fun hi => ⟨_, _, g1, g2, ?_⟩⟩
      · obtain ⟨x, y, e1, e2, rfl⟩ := zipL_get hz
        obtain ⟨x', a1, a2⟩ := t1.get e1
        obtain ⟨y', b1, b2⟩ := t2.get e2
        refine ⟨⟨_, _, x', y', g1, g2, a1, b1⟩, fun z H'' ⟨T, u, u', eT, hT, eH, hy1, hy2⟩ => ?_⟩
        subst eT eH
        have i1 := (hy1 _ g1).symm.trans a1
        have i2 := (hy2 _ g2).symm.trans b1
        cases i1
        cases i2
        exact upd_t s' hT (.cons a2 (.cons b2 .nil))
      · simp only [zipL_len] at hi
        rw [← t1.length, ← t2.length]
        omega
    · exact h1.elim
  · exact h1.elim
theorem rev_get {α : Type} {xs : List α} {i : Nat} {x : α} (h : xs.reverse[i]? = some x) : i < xs.length ∧ xs[xs.length - 1 - i]? = some x := by
  have hi : i < xs.length := by
    have := (List.getElem?_eq_some_iff.mp h).1
    rwa [List.length_reverse] at this
  rw [List.getElem?_reverse hi] at h
  exact ⟨hi, h⟩
theorem ji_rev {l : Expr} {f : FE} {p pos : Pos} (hm : X.mg "reversed" = none) (hl : JE X W ca l f) (hg : Gl X "reversed" := by rfl) (hs : starEach [l] X.env = (false, eval l X.env) :: starEach [] X.env := by rfl) : JI X W ca tg (.Call (.Name "reversed" p) [l] [] pos) (revI f) := by
  obtain ⟨t, pl, r⟩ := hl.ex
  refine ⟨_, RT.pi_revA hg hm pl hs, fun σ H m env st Q s e h => ?_⟩
  refine r σ H m env st _ s e (Post.bind h fun x st1 m1 x' H1 p1 k1 s1 r1 h1 => ?_)
  split at h1
  · rename_i xs he
    have lstc : ∀ {v : PV}, VR X.K ca H1 m1 v x' → lstAt st1 v = some xs → Post X.K ca (ItR X.K ca) (EW W ca σ) m1 H1 Q (.ok ⟨xs.reverse, gdOf v st1⟩ st1) → ∃ (a : Addr) (ws : List V), x' = .ref a ∧ ((SqL X.K H1 a ws ∧ Q (Itv X.K a ws.length) H1) ∨ (SqT X.K H1 a ws ∧ Q (RT.ItvT X.K a ws.length) H1)) := by
      intro v r1 he h1
      obtain ⟨a, vs, rfl, hq, r2⟩ := lst_ok s1 r1 he
      refine ⟨a, vs, rfl, .inl ⟨hq, h1 m1 _ H1 (List.prefix_refl _) Keep.refl s1 fun i m' H' st' p k s' g => ?_⟩⟩
      obtain ⟨ws, g1, t1⟩ := lst_stay s1 r1 he p k s' g
      refine ⟨fun z hz => ?_, fun hi => by rw [List.length_reverse] at hi; rw [← r2.length]; exact hi⟩
      obtain ⟨h3, h4⟩ := rev_get hz
      rw [r2.length] at h4
      obtain ⟨w, e1, e2⟩ := t1.get h4
      refine ⟨⟨by rw [← r2.length]; exact h3, ws, w, g1, e1⟩, fun y H'' ⟨eH, hy⟩ => ?_⟩
      subst eH
      have := (hy ws g1).symm.trans e1
      cases this
      exact ⟨Keep.refl, s', e2⟩
    cases x with
    | tup ys =>
      simp only [seqAt, Option.some.injEq] at he
      subst he
      cases r1 with
      | tup hh rr =>
        rename_i a vs
        refine ⟨a, vs, rfl, .inr ⟨hh, h1 m1 _ H1 (List.prefix_refl _) Keep.refl s1 fun i m' H' st' p k s' g => ?_⟩⟩
        have g1 := k.t _ _ hh
        have t1 := rr.mono p k
        refine ⟨fun z hz => ?_, fun hi => by rw [List.length_reverse] at hi; rw [← rr.length]; exact hi⟩
        obtain ⟨h3, h4⟩ := rev_get hz
        rw [rr.length] at h4
        obtain ⟨w, e1, e2⟩ := t1.get h4
        refine ⟨⟨by rw [← rr.length]; exact h3, vs, w, g1, e1⟩, fun y H'' ⟨eH, hy⟩ => ?_⟩
        subst eH
        have := (hy vs g1).symm.trans e1
        cases this
        exact ⟨Keep.refl, s', e2⟩
    | frz ys => exact lstc r1 he h1
    | ref n => exact lstc r1 he h1
    | _ => cases he
  · exact h1.elim
theorem ji_str {l : Expr} {f : FE} (hl : JE X W ca l f) : JI X W ca tg l (strI f) := by
  obtain ⟨t, p, r⟩ := hl.ex
  refine ⟨_, pi_str p, fun σ H m env st Q s e h => ?_⟩
  refine r σ H m env st _ s e (Post.bind h fun x st1 m1 x' H1 p1 k1 s1 r1 h1 => ?_)
  split at h1
  · cases r1
    rename_i x
    refine ⟨x, rfl, h1 m1 _ H1 (List.prefix_refl _) Keep.refl s1 fun i m' H' st' p k s' g => ?_⟩
    refine ⟨fun z hz => ?_, fun hi => (by simpa using hi : x.cps.size ≤ i)⟩
    rw [List.getElem?_map] at hz
    obtain ⟨c, hc, rfl⟩ := Option.map_eq_some_iff.mp hz
    have hc' : x.cps[i]? = some c := by simpa using hc
    refine ⟨(Array.getElem?_eq_some_iff.mp hc').1, fun y H'' ⟨eH, c', h1, h2⟩ => ?_⟩
    subst eH h2
    rw [hc'] at h1
    cases h1
    exact ⟨Keep.refl, s', .str _⟩
  · exact h1.elim
end
end
end FL
end
section
set_option linter.all false
set_option maxRecDepth 100000
namespace FL
open PySem PySem.Spec PyProof.Rows L2
noncomputable section
section
variable {X : Cx} {W : WX} {ca : Ca}
theorem je_globE {x : Str} {v : PV} {pos : Pos} (h : ∃ u w, X.mg x = some u ∧ RelV w u ∧ ∀ ca H m, VR X.K ca H m v w) (hg : Gl X x) (hd : (x == ("__debug__" : Str)) = false := by decide) : JE X W ca (.Name x pos) (cstF v) := by
  obtain ⟨u, w, h1, h2, h3⟩ := h
  exact je_glob hg h1 h2 (h3 ca) hd
theorem je_globC {x : Str} {n : String} {a : Addr} {pos : Pos} (hm : X.mg x = some (.ref a)) (hc : ca n = a) (hg : Gl X x) (hd : (x == ("__debug__" : Str)) = false := by decide) : JE X W ca (.Name x pos) (cstF (.cls n)) :=
  je_glob (w := .ref a) hg hm rfl (fun H m => by rw [← hc]; exact .cls n) hd
theorem jt_ch {op op' : CmpOp} {a b c : Expr} {pos : Pos} {fa fb fc : FE} {g g' : PV → PV → Store → O PV} (ho : OpF X ca (compareOp op) g) (ho' : OpF X ca (compareOp op') g') (ha : JE X W ca a fa) (hb : JE X W ca b fb) (hc : JE X W ca c fc)
    (hm : lastMarks [op, op'] [b, c] = false := by with_unfolding_all rfl) : JT X W ca (.Compare a [op, op'] [b, c] pos) (isB (chF g g' fa fb fc)) := by
  obtain ⟨ta, pa, ra⟩ := ha.ex
  obtain ⟨tb, pb, rb⟩ := hb.ex
  obtain ⟨tc, pc, rc⟩ := hc.ex
  obtain ⟨r, po, ro⟩ := ho
  obtain ⟨r', po', ro'⟩ := ho'
  refine ⟨_, pt_chain po po' pa pb pc hm, fun σ H m env st Q s e h => ?_⟩
  show tChain r r' ta tb tc σ H (fun x H' => ∃ k, x = .bl k ∧ Q k H')
  have h' : Post X.K ca rB (EW W ca σ) m H Q ((fa env st).bind fun x s1 => (fb env s1).bind fun y s2 => (R.of (g x y s2)).bind fun z s3 => (asB z s3).bind fun k s4 =>
      (if k = true then (fc env s4).bind fun u s5 => R.of (g' y u s5) else .ok (.bl false) s4).bind asB) := by
    unfold isB chF at h
    cases q : fa env st with
    | ok x s1 =>
      rw [q] at h
      simp only [R.bind] at h ⊢
      cases q2 : fb env s1 with
      | ok y s2 =>
        rw [q2] at h
        simp only at h ⊢
        cases q3 : R.of (g x y s2) with
        | ok z s3 =>
          rw [q3] at h
          simp only at h ⊢
          cases q4 : asB z s3 <;> rw [q4] at h <;> exact h
        | er z s3 => rw [q3] at h; exact h
        | no => rw [q3] at h; exact h
      | er y s2 => rw [q2] at h; exact h
      | no => rw [q2] at h; exact h
    | er x s1 => rw [q] at h; exact h
    | no => rw [q] at h; exact h
  refine ra σ H m env st _ s e (Post.bind h' fun x st1 m1 x' H1 p1 k1 s1 r1 h1 => ?_)
  refine rb σ H1 m1 env st1 _ s1 (e.mono p1 k1) (Post.bind h1 fun y st2 m2 y' H2 p2 k2 s2 r2 h2 => ?_)
  refine ro H2 m2 st2 x y x' y' _ s2 (r1.mono p2 k2) r2 (Post.of (Post.bind h2 fun z st3 m3 z' H3 p3 k3 s3 r3 h3 => ?_))
  have h4 := Post.bind (rel := rB) (Q1 := fun k H4 => H4 = H3 → if k = true then tc σ H4 (fun u H5 => r' y' u H5 (fun x H' => ∃ k, x = .bl k ∧ Q k H')) else ∃ k, V.bl false = .bl k ∧ Q k H4) h3 fun k st4 m4 k' H4 p4 k4 s4 r4 h4 e4 => by
    subst e4
    have rk : k = k' := r4
    subst rk
    cases k with
    | true =>
      rw [if_pos rfl] at h4 ⊢
      have h5 : Post X.K ca rB (EW W ca σ) m4 H4 Q ((fc env st4).bind fun u s5 => (R.of (g' y u s5)).bind asB) := by
        cases q : fc env st4 <;> rw [q] at h4 <;> exact h4
      refine rc σ H4 m4 env st4 _ s4 (e.mono (((p1.trans p2).trans p3).trans p4) (((k1.trans k2).trans k3).trans k4)) (Post.bind h5 fun u st5 m5 u' H5 p5 k5 s5 r5 h5 => ?_)
      refine ro' H5 m5 st5 y u y' u' _ s5 (r2.mono ((p3.trans p4).trans p5) ((k3.trans k4).trans k5)) r5 (Post.of (Post.bind h5 fun z st6 m6 z' H6 p6 k6 s6 r6 h6 => ?_))
      exact asB_post h6 s6 r6
    | false =>
      rw [if_neg Bool.false_ne_true] at h4 ⊢
      exact ⟨false, rfl, h4.ok s4 rfl⟩
  obtain ⟨k, ek, q⟩ := asB_post h4 s3 r3
  subst ek
  exact ⟨k, rfl, q rfl⟩
/-! ## stores into a list -/
def setLV (o i v : PV) (st : Store) : Option Store := match o, i with
  | .ref n, .int k => match st[n]? with
    | some (.lst xs) => (ixN xs.length k).map fun j => st.set n (.lst (xs.set j v))
    | _ => none
  | _, _ => none
theorem sf_list : SetF X ca setLV := by
  refine ⟨_, set_list, fun H m st o i v o' i' v' st' Q s ro ri rv e q => ?_⟩
  unfold setLV at e
  split at e
  · cases ri
    cases ro with
    | ref hn =>
      split at e
      · rename_i xs hx
        obtain ⟨vs, e1, r2⟩ := getL s hx hn
        obtain ⟨j, hj, rfl⟩ := Option.map_eq_some_iff.mp e
        have kk := Keep.upd (K := X.K) (o := .lst (vs.set j v')) e1 (fun _ z => nomatch z) (fun _ _ z => nomatch z)
        refine ⟨_, vs, _, j, rfl, rfl, e1, by rw [← r2.length]; exact hj, q _ kk (s.set hn e1 (fun _ z => nomatch z) (fun _ _ z => nomatch z) ⟨_, upd_same, (r2.set rv j).mono (List.prefix_refl _) kk⟩)⟩
      · cases e
  · cases e
end
/-! ## the end -/
section
variable {P : Program} {w : World} {K : PySem.W.Frag} {mg : Str → Option Value} {base : Heap} {ca : Ca}
theorem Cal.mono {j k : Nat} {f : Addr} {fd : FuncData} {ps : List Str} {F : Fn} (C : Cal P w K mg base ca j f fd ps F) (h : j ≤ k) : Cal P w K mg base ca k f fd ps F := ⟨C.ok.mono h, C.kp⟩
/-- what the law promises -/
def spTop (K : PySem.W.Frag) : Sp := fun vs H Q _ => ∃ (a : Addr) (ns : List Int), vs = [.ref a] ∧ ns.length ≤ 63 ∧ Only H ∧ SqL K H a (ns.map V.int) ∧ ∀ H', Q (.bl true) H'
theorem top_ok {k : Nat} {f : Addr} {fd : FuncData} {x : Str} {F : Fn} (C : Cal P w K mg base ca k f fd [x] F) (h : ∀ ns : List Int, ns.length ≤ 63 → ∃ st, F [.frz (ns.map PV.int)] [] = .ok (.bl true) st) : FnOk P w K mg base (L2.CX P w) k f fd [x] (spTop K) := by
  refine C.ok.imp fun vs H Q E hh => ?_
  obtain ⟨a, ns, rfl, hl, hO, hS, q⟩ := hh
  obtain ⟨st, e⟩ := h ns hl
  refine ⟨[], [], [.frz (ns.map PV.int)], ⟨rfl, List.nodup_nil, fun n a o z => by cases z⟩, .cons (.frz ?_ (VRs.ints ns)) .nil, rfl, ?_⟩
  · rcases hS with (hS | hS) | hS
    · rcases hO a with z | ⟨o, xs, z⟩
      · rw [z] at hS; cases hS
      · rw [z] at hS; cases hS
    · exact .inl hS
    · exact .inr hS
  · rw [e]
    intro m' b H' _ _ _ r
    cases r
    exact q H'
theorem top_cx (P : Program) (w : World) (H : Hp) (s : Shared) (e : Value) (s' : Shared) (h : L2.CX P w [] H s (fun _ _ _ => False) e s') : False := by
  obtain ⟨_, _, _, _, _, _, _, _, _, _, _, _, z⟩ := h
  exact z.elim
theorem hu65 {A : Around} {k : Nat} (hr : Room k A) : A.units + 65 < cLine := by have := hr.un; omega
theorem hu64 {A : Around} {k : Nat} (hr : Room k A) : A.units + 64 < cLine := by have := hr.un; omega
end
end
end FL
end
section
set_option linter.all false
set_option maxRecDepth 100000
namespace FL
open PySem PySem.Spec PyProof.Rows L2
noncomputable section
/-! ## reasoning about what defs do -/
theorem bind_ok {α β : Type} (a : α) (s : Store) (g : α → Store → R β) : (R.ok a s).bind g = g a s := rfl
theorem toS_ok {α : Type} (a : α) (s : Store) (e : Env) (g : α → Store → RS) : (R.ok a s).toS e g = g a s := rfl
theorem of_some {α : Type} (a : α) (s : Store) : R.of (some (a, s)) = .ok a s := rfl
theorem seqS_nx {f g : FS} {e e1 : Env} {s s1 : Store} (h : f e s = .nx e1 s1) : seqS f g e s = g e1 s1 := by unfold seqS; rw [h]
theorem seqS_rt {f g : FS} {e : Env} {s s1 : Store} {v : PV} (h : f e s = .rt v s1) : seqS f g e s = .rt v s1 := by unfold seqS; rw [h]
theorem seqS_er {f g : FS} {e e1 : Env} {s s1 : Store} {x : Ex} (h : f e s = .er x e1 s1) : seqS f g e s = .er x e1 s1 := by unfold seqS; rw [h]
theorem ifS_t {c : FT} {f g : FS} {e : Env} {s s1 : Store} (h : c e s = .ok true s1) : ifS c f g e s = f e s1 := by unfold ifS; rw [h]; rfl
theorem ifS_f {c : FT} {f g : FS} {e : Env} {s s1 : Store} (h : c e s = .ok false s1) : ifS c f g e s = g e s1 := by unfold ifS; rw [h]; rfl
/-- what was made and is not handed out is forgotten -/
theorem pre_app (st g : Store) : preOk st (st ++ g) := fun k hk => .inl (List.getElem?_append_left hk)
theorem gc_app {v : PV} {st g : Store} (h : refsOk st.length v = true) : gc st v (st ++ g) = .ok v st := by
  unfold gc
  rw [if_pos ⟨by simp, pre_app st g⟩, if_pos h, List.take_left' rfl]
theorem gc_same {v : PV} {st : Store} (h : refsOk st.length v = true) : gc st v st = .ok v st := by
  have := gc_app (g := []) h
  rwa [List.append_nil] at this
/-- a new list of things without references -/
theorem gc_new {st g : Store} {r : Nat} {o : PO} (h : (st ++ g)[r]? = some o) (hr : st.length ≤ r) (ho : objOk st.length o = true) : gc st (.ref r) (st ++ g) = .ok (.ref st.length) (st ++ [o]) := by
  unfold gc
  have n : ¬ refsOk st.length (.ref r) = true := by simp [refsOk]; omega
  rw [if_pos ⟨by simp, pre_app st g⟩, if_neg n]
  simp only [h]
  rw [if_pos ⟨ho, hr⟩, List.take_left' rfl]
theorem gcx_app {x : Ex} {st g : Store} (h : x.val = none) : gcx st x (st ++ g) = .er x st := by
  unfold gcx
  rw [if_pos ⟨by simp, pre_app st g, fun p hp => by rw [h] at hp; cases hp⟩, List.take_left' rfl]
mutual
/-- things without any reference -/
def pureP : PV → Bool
  | .ref _ => false
  | .tup xs => puresP xs
  | .frz xs => puresP xs
  | _ => true
def puresP : List PV → Bool
  | [] => true
  | x :: xs => pureP x && puresP xs
end
mutual
theorem pure_refs (n : Nat) : ∀ {v : PV}, pureP v = true → refsOk n v = true
  | .non, _ => rfl
  | .bl _, _ => rfl
  | .int _, _ => rfl
  | .str _, _ => rfl
  | .ty _, _ => rfl
  | .cls _, _ => rfl
  | .exc _, _ => rfl
  | .ref _, h => by cases h
  | .tup xs, h => by simp only [refsOk]; exact pures_refs n (by simpa only [pureP] using h)
  | .frz xs, h => by simp only [refsOk]; exact pures_refs n (by simpa only [pureP] using h)
theorem pures_refs (n : Nat) : ∀ {xs : List PV}, puresP xs = true → refsOks n xs = true
  | [], _ => rfl
  | x :: xs, h => by
    simp only [puresP, Bool.and_eq_true] at h
    simp only [refsOks, Bool.and_eq_true]
    exact ⟨pure_refs n h.1, pures_refs n h.2⟩
end
theorem pures_iff {xs : List PV} : puresP xs = true ↔ ∀ x ∈ xs, pureP x = true := by
  induction xs with
  | nil => simp [puresP]
  | cons x xs ih => simp [puresP, ih]
theorem run_rt {n : Nat} {body : FS} {args : List PV} {st g : Store} {v : PV} (h : body (args.map some ++ List.replicate (n - args.length) none) st = .rt v (st ++ g)) (p : pureP v = true) : runFn n body args st = .ok v st := by
  unfold runFn
  rw [h]
  exact gc_app (pure_refs _ p)
theorem run_rt0 {n : Nat} {body : FS} {args : List PV} {st : Store} {v : PV} (h : body (args.map some ++ List.replicate (n - args.length) none) st = .rt v st) (p : pureP v = true) : runFn n body args st = .ok v st := by
  unfold runFn
  rw [h]
  exact gc_same (pure_refs _ p)
theorem run_new {n : Nat} {body : FS} {args : List PV} {st g : Store} {r : Nat} {o : PO} (h : body (args.map some ++ List.replicate (n - args.length) none) st = .rt (.ref r) (st ++ g)) (hr : (st ++ g)[r]? = some o) (hl : st.length ≤ r) (ho : objOk st.length o = true) :
    runFn n body args st = .ok (.ref st.length) (st ++ [o]) := by
  unfold runFn
  rw [h]
  exact gc_new hr hl ho
/-! ### places of the store -/
theorem getS {st g : Store} {i : Nat} : (st ++ g)[st.length + i]? = g[i]? := by rw [List.getElem?_append_right (by omega)]; congr 1; omega
theorem getS0 {st g : Store} : (st ++ g)[st.length]? = g[0]? := getS (i := 0)
theorem setS_app {st g : Store} {i : Nat} {o : PO} : (st ++ g).set (st.length + i) o = st ++ g.set i o := by
  rw [List.set_append_right _ _ (by omega)]
  congr 2
  omega
theorem setS0_app {st g : Store} {o : PO} : (st ++ g).set st.length o = st ++ g.set 0 o := setS_app (i := 0)
theorem lenS {st g : Store} : (st ++ g).length = st.length + g.length := List.length_append
theorem appS {st g k : Store} : (st ++ g) ++ k = st ++ (g ++ k) := List.append_assoc ..
theorem appS0 {st k : Store} : st ++ k = st ++ k := rfl
theorem getOld {st g : Store} {i : Nat} {o : PO} (h : st[i]? = some o) : (st ++ g)[i]? = some o := by
  rw [List.getElem?_append_left (List.getElem?_eq_some_iff.mp h).1]
  exact h
/-! ### walks -/
theorem gd_nil (st : Store) : GdOk [] st := fun p hp => by cases hp
theorem forL_wp {gd : List (Nat × PO)} {g : FG} {b : FS} (Q : RS → Prop) (P : Nat → Env → Store → Prop) : ∀ {xs : List PV} {k : Nat} {e : Env} {st : Store} (h0 : P k e st)
    (hs : ∀ i x e st, xs[i]? = some x → P (k + i) e st → GdOk gd st ∧ ∃ e1, g x e = some e1 ∧ (match b e1 st with
      | .nx e2 s2 => P (k + i + 1) e2 s2
      | .ct e2 s2 => P (k + i + 1) e2 s2
      | .bk e2 s2 => Q (.nx e2 s2)
      | r => Q r))
    (hd : ∀ e st, P (k + xs.length) e st → GdOk gd st ∧ Q (.nx e st)), Q (forL gd g b xs e st)
  | [], k, e, st, h0, hs, hd => by
    obtain ⟨h1, h2⟩ := hd e st h0
    unfold forL
    rw [if_pos h1]
    exact h2
  | x :: r, k, e, st, h0, hs, hd => by
    obtain ⟨h1, e1, h2, h3⟩ := hs 0 x e st rfl h0
    unfold forL
    rw [if_pos h1, h2]
    have next : ∀ {e2 : Env} {s2 : Store}, P (k + 0 + 1) e2 s2 → Q (forL gd g b r e2 s2) := fun {e2 s2} p =>
      forL_wp Q P (k := k + 1) p (fun i y e st hy q => by
        have := hs (i + 1) y e st (by simpa using hy) (by rw [show k + (i + 1) = k + 1 + i by omega]; exact q)
        rwa [show k + (i + 1) + 1 = k + 1 + i + 1 by omega] at this) (fun e st q => hd e st (by rw [List.length_cons, show k + (r.length + 1) = k + 1 + r.length by omega]; exact q))
    simp only
    cases q : b e1 st with
    | nx e2 s2 => rw [q] at h3; exact next h3
    | ct e2 s2 => rw [q] at h3; exact next h3
    | bk e2 s2 => rw [q] at h3; exact h3
    | rt v s2 => rw [q] at h3; exact h3
    | er x e2 s2 => rw [q] at h3; exact h3
    | no => rw [q] at h3; exact h3
/-- a loop that runs to its end -/
theorem forL_inv {gd : List (Nat × PO)} {g : FG} {b : FS} (P : Nat → Env → Store → Prop) {xs : List PV} {e : Env} {st : Store} (h0 : P 0 e st)
    (hs : ∀ i x e st, xs[i]? = some x → P i e st → GdOk gd st ∧ ∃ e1, g x e = some e1 ∧ ∃ e2 s2, b e1 st = .nx e2 s2 ∧ P (i + 1) e2 s2)
    (hd : ∀ e st, P xs.length e st → GdOk gd st) : ∃ e' st', forL gd g b xs e st = .nx e' st' ∧ P xs.length e' st' := by
  refine forL_wp (fun r => ∃ e' st', r = .nx e' st' ∧ P xs.length e' st') P (k := 0) h0 (fun i x e st hx p => ?_) (fun e st p => ?_)
  · rw [Nat.zero_add] at p ⊢
    obtain ⟨h1, e1, h2, e2, s2, h3, h4⟩ := hs i x e st hx p
    refine ⟨h1, e1, h2, ?_⟩
    rw [h3]
    exact h4
  · rw [Nat.zero_add] at p
    exact ⟨hd e st p, e, st, rfl, p⟩
/-- the same, by a row of states -/
theorem forL_row {gd : List (Nat × PO)} {g : FG} {b : FS} (E : Nat → Env) (S : Nat → Store) : ∀ {xs : List PV} {k : Nat},
    (∀ i x, xs[i]? = some x → GdOk gd (S (k + i)) ∧ ∃ e1, g x (E (k + i)) = some e1 ∧ b e1 (S (k + i)) = .nx (E (k + i + 1)) (S (k + i + 1))) → GdOk gd (S (k + xs.length)) →
    forL gd g b xs (E k) (S k) = .nx (E (k + xs.length)) (S (k + xs.length))
  | [], k, _, hd => by
    unfold forL
    rw [if_pos (show GdOk gd (S k) from hd)]
    rfl
  | x :: r, k, hs, hd => by
    obtain ⟨h1, e1, h2, h3⟩ := hs 0 x rfl
    unfold forL
    rw [if_pos (show GdOk gd (S k) from h1), show g x (E k) = some e1 from h2]
    simp only
    rw [show b e1 (S k) = _ from h3]
    simp only
    have := forL_row (xs := r) (k := k + 1) E S (fun i y hy => by
      have := hs (i + 1) y (by simpa using hy)
      rwa [show k + (i + 1) = k + 1 + i by omega] at this) (by rw [show k + 1 + r.length = k + (r.length + 1) by omega]; exact hd)
    rw [List.length_cons, show k + (r.length + 1) = k + 1 + r.length by omega]
    exact this
/-! ### comprehensions -/
theorem lcL_map {α : Type} {gd : List (Nat × PO)} {g : FG} {ft : FT} {fe : FE} {e0 : Env} {s1 : Store} (f : α → PV) (p : α → Bool) (φ : α → PV) (hg : ∀ acc, GdOk gd (s1 ++ [.lst acc])) : ∀ {xs : List α} {acc : List PV},
    (∀ x ∈ xs, ∃ e1, g (f x) e0 = some e1 ∧ ∀ acc, ft e1 (s1 ++ [.lst acc]) = .ok (p x) (s1 ++ [.lst acc]) ∧ (p x = true → fe e1 (s1 ++ [.lst acc]) = .ok (φ x) (s1 ++ [.lst acc]))) → acc.length + xs.length ≤ sizeLine →
    lcL gd g ft fe s1.length e0 (xs.map f) (s1 ++ [.lst acc]) = some (.ref s1.length, s1 ++ [.lst (acc ++ (xs.filter p).map φ)])
  | [], acc, _, _ => by
    rw [List.map_nil]
    unfold lcL
    rw [if_pos (hg acc)]
    simp
  | x :: r, acc, hx, hl => by
    obtain ⟨e1, h1, h2⟩ := hx x List.mem_cons_self
    obtain ⟨h3, h4⟩ := h2 acc
    rw [List.map_cons]
    unfold lcL
    rw [if_pos (hg acc), h1]
    simp only
    rw [h3]
    rw [List.length_cons] at hl
    cases hp : p x with
    | false =>
      simp only
      rw [lcL_map f p φ hg (fun y hy => hx y (List.mem_cons_of_mem _ hy)) (by omega), List.filter_cons, hp]
      rfl
    | true =>
      simp only
      rw [h4 hp]
      simp only
      rw [getS0]
      simp only [List.getElem?_cons_zero]
      rw [if_pos (by omega), setS0_app]
      simp only [List.set_cons_zero]
      rw [lcL_map f p φ hg (fun y hy => hx y (List.mem_cons_of_mem _ hy)) (by rw [List.length_append, List.length_singleton]; omega), List.filter_cons, hp]
      simp [List.append_assoc]
theorem lcF_filter {α : Type} {fi : FI} {own : List Nat} {g : FG} {ft : FT} {fe : FE} {e : Env} {st s1 : Store} {gd : List (Nat × PO)} (as : List α) (f : α → PV) (p : α → Bool) (φ : α → PV) (hi : fi e st = .ok ⟨as.map f, gd⟩ s1) (hg : ∀ acc, GdOk gd (s1 ++ [.lst acc])) (hl : as.length ≤ sizeLine)
    (hx : ∀ x ∈ as, ∃ e1, g (f x) (wipeE e own) = some e1 ∧ ∀ acc, ft e1 (s1 ++ [.lst acc]) = .ok (p x) (s1 ++ [.lst acc]) ∧ (p x = true → fe e1 (s1 ++ [.lst acc]) = .ok (φ x) (s1 ++ [.lst acc]))) :
    lcF fi own g ft fe e st = .ok (.ref s1.length) (s1 ++ [.lst ((as.filter p).map φ)]) := by
  unfold lcF
  rw [hi, bind_ok, lcL_map f p φ hg hx (by rw [List.length_nil]; omega)]
  rfl
theorem lcF_map {α : Type} {fi : FI} {own : List Nat} {g : FG} {fe : FE} {e : Env} {st s1 : Store} {gd : List (Nat × PO)} (as : List α) (f : α → PV) (φ : α → PV) (hi : fi e st = .ok ⟨as.map f, gd⟩ s1) (hg : ∀ acc, GdOk gd (s1 ++ [.lst acc])) (hl : as.length ≤ sizeLine)
    (hx : ∀ x ∈ as, ∃ e1, g (f x) (wipeE e own) = some e1 ∧ ∀ acc, fe e1 (s1 ++ [.lst acc]) = .ok (φ x) (s1 ++ [.lst acc])) :
    lcF fi own g yesT fe e st = .ok (.ref s1.length) (s1 ++ [.lst (as.map φ)]) := by
  rw [lcF_filter as f (fun _ => true) φ hi hg hl fun x h => by
    obtain ⟨e1, h1, h2⟩ := hx x h
    exact ⟨e1, h1, fun acc => ⟨rfl, fun _ => h2 acc⟩⟩]
  rw [List.filter_eq_self.mpr fun _ _ => rfl]
/-! ### while -/
theorem whL_wp {c : FT} {b : FS} (Q : RS → Prop) (P : Env → Store → Prop) (μ : Env → Store → Nat) : ∀ (n : Nat) {e : Env} {st : Store} (h0 : P e st) (hn : μ e st < n)
    (hs : ∀ e st, P e st → ∃ k s1, c e st = .ok k s1 ∧ if k = true then (match b e s1 with
      | .nx e2 s2 => P e2 s2 ∧ μ e2 s2 < μ e st
      | .ct e2 s2 => P e2 s2 ∧ μ e2 s2 < μ e st
      | .bk e2 s2 => Q (.nx e2 s2)
      | r => Q r) else Q (.nx e s1)), Q (whL c b n e st)
  | 0, e, st, h0, hn, hs => absurd hn (Nat.not_lt_zero _)
  | n + 1, e, st, h0, hn, hs => by
    obtain ⟨k, s1, h1, h2⟩ := hs e st h0
    unfold whL
    rw [h1, toS_ok]
    cases k with
    | false => rw [if_neg Bool.false_ne_true] at h2 ⊢; exact h2
    | true =>
      rw [if_pos rfl] at h2 ⊢
      cases q : b e s1 with
      | nx e2 s2 => rw [q] at h2; exact whL_wp Q P μ n h2.1 (by have := h2.2; omega) hs
      | ct e2 s2 => rw [q] at h2; exact whL_wp Q P μ n h2.1 (by have := h2.2; omega) hs
      | bk e2 s2 => rw [q] at h2; exact h2
      | rt v s2 => rw [q] at h2; exact h2
      | er x e2 s2 => rw [q] at h2; exact h2
      | no => rw [q] at h2; exact h2
theorem whS_wp {c : FT} {b : FS} (Q : RS → Prop) (P : Env → Store → Prop) (μ : Env → Store → Nat) {e : Env} {st : Store} (h0 : P e st) (hn : μ e st < 1000000)
    (hs : ∀ e st, P e st → ∃ k s1, c e st = .ok k s1 ∧ if k = true then (match b e s1 with
      | .nx e2 s2 => P e2 s2 ∧ μ e2 s2 < μ e st
      | .ct e2 s2 => P e2 s2 ∧ μ e2 s2 < μ e st
      | .bk e2 s2 => Q (.nx e2 s2)
      | r => Q r) else Q (.nx e s1)) : Q (whS c b e st) := by
  unfold whS
  exact whL_wp Q P μ FUEL h0 (by rw [FUEL_eq]; exact hn) hs
/-! ### sizes -/
theorem log2_lt {n k : Nat} (h : n < 2 ^ (k + 1)) : n.log2 ≤ k := by
  by_cases h0 : n = 0
  · subst h0; simp
  · have := (Nat.log2_lt h0).mpr h
    omega
theorem mulOk_of {i j : Int} (hi : i.natAbs < 2 ^ 250) (hj : j.natAbs < 2 ^ 250) : mulOk i j = true := by
  have h1 := log2_lt (k := 249) hi
  have h2 := log2_lt (k := 249) hj
  exact decide_eq_true (by omega)
theorem sl (n : Nat) (h : n ≤ 16777216) : n ≤ sizeLine := by rw [sizeLine_eq]; exact h
end
end FL
end
section
set_option linter.all false
set_option maxRecDepth 100000
namespace FL
open PySem PySem.Spec PyProof.Rows L2
noncomputable section
/-! ## texts as lists of signs -/
def S (l : List Nat) : Str := ⟨l.toArray⟩
theorem S_cps (l : List Nat) : (S l).cps.toList = l := by simp [S]
theorem S_len (l : List Nat) : (S l).length = l.length := by simp [S, Str.length]
theorem S_of (x : Str) : x = S x.cps.toList := by cases x; simp [S]
theorem S_app (a b : List Nat) : S a ++ S b = S (a ++ b) := by
  show (⟨_⟩ : Str) = _
  simp [S]
theorem S_inj {a b : List Nat} : S a = S b ↔ a = b := ⟨fun h => by have := congrArg (fun x : Str => x.cps.toList) h; simpa [S] using this, fun h => by rw [h]⟩
theorem S_one (c : Nat) : (⟨#[c]⟩ : Str) = S [c] := rfl
theorem S_cut (l : List Nat) (lo hi : Option Int) : cutS (S l) lo hi = S ((l.drop (HT.sIx l.length 0 lo)).take (HT.sIx l.length l.length hi - HT.sIx l.length 0 lo)) := by
  unfold cutS
  rw [S_cps, S_len]
  rfl
theorem sIx_some {n d : Nat} {i : Int} (h : 0 ≤ i) : HT.sIx n d (some i) = min i.toNat n := by
  show (if i < 0 then (i + (n : Int)).toNat else min i.toNat n) = _
  rw [if_neg (by omega)]
theorem foldl_app (x : List Nat) : ∀ (n : Nat) (acc : Array Nat), (List.replicate n x.toArray).foldl (· ++ ·) acc = acc ++ (List.replicate n x).flatten.toArray
  | 0, acc => by simp
  | n + 1, acc => by
    rw [List.replicate_succ, List.foldl_cons, foldl_app x n, List.replicate_succ, List.flatten_cons, Array.append_assoc]
    simp
theorem S_mul (l : List Nat) (n : Int) (h : 0 ≤ n) : Txt.mul (S l) n = S (List.replicate n.toNat l).flatten := by
  unfold Txt.mul
  by_cases h1 : n < 1
  · rw [if_pos h1]
    have : n.toNat = 0 := by omega
    rw [this]
    rfl
  · rw [if_neg h1]
    by_cases h2 : (n == 1 || (S l).length == 0) = true
    · rw [if_pos h2]
      rcases Bool.or_eq_true_iff.mp h2 with h3 | h3
      · have : n = 1 := by simpa using h3
        subst this
        simp
      · have h4 : l = [] := by
          have : (S l).length = 0 := by simpa using h3
          rw [S_len] at this
          exact List.length_eq_zero_iff.mp this
        subst h4
        simp
    · rw [if_neg h2]
      show (⟨_⟩ : Str) = _
      have := foldl_app l n.toNat #[]
      unfold S
      rw [this]
      simp
/-- an item of a list by its place -/
theorem atI_nat' {α : Type} {xs : List α} {i : Int} {x : α} (h0 : 0 ≤ i) (h : xs[i.toNat]? = some x) : atI xs i = some x := by
  have hi : i.toNat < xs.length := (List.getElem?_eq_some_iff.mp h).1
  unfold atI ixN
  rw [if_pos h0, if_pos (by omega)]
  exact h
theorem atI_lt {α : Type} {xs : List α} {i : Int} (h0 : 0 ≤ i) (h : i < xs.length) : atI xs i = some (xs[i.toNat]'(by omega)) := atI_nat' h0 (List.getElem?_eq_getElem (by omega))
theorem atI_getD {α : Type} {xs : List α} {i : Int} {d : α} (h0 : 0 ≤ i) (h : i < xs.length) : atI xs i = some (xs.getD i.toNat d) := by
  rw [atI_lt h0 h]
  simp [List.getD_eq_getElem?_getD, List.getElem?_eq_getElem (show i.toNat < xs.length by omega)]
theorem at0 {α : Type} {a : α} {r : List α} : atI (a :: r) 0 = some a := atI_nat' (by decide) rfl
theorem at1 {α : Type} {a b : α} {r : List α} : atI (a :: b :: r) 1 = some b := atI_nat' (by decide) rfl
theorem at2 {α : Type} {a b c : α} {r : List α} : atI (a :: b :: c :: r) 2 = some c := atI_nat' (by decide) rfl
theorem at3 {α : Type} {a b c d : α} {r : List α} : atI (a :: b :: c :: d :: r) 3 = some d := atI_nat' (by decide) rfl
theorem at4 {α : Type} {a b c d e : α} {r : List α} : atI (a :: b :: c :: d :: e :: r) 4 = some e := atI_nat' (by decide) rfl
theorem at5 {α : Type} {a b c d e f : α} {r : List α} : atI (a :: b :: c :: d :: e :: f :: r) 5 = some f := atI_nat' (by decide) rfl
theorem letters_eq : ("abcdefghijklmnopqrstuvwxyz" : Str) = S ((List.range 26).map (· + 97)) := by decide +kernel
theorem letters_at {i : Int} (h0 : 0 ≤ i) (h : i < 26) : atI ((List.range 26).map (· + 97)) i = some (97 + i.toNat) := by
  apply atI_nat' h0
  rw [List.getElem?_map, List.getElem?_range (by omega)]
  simp [Nat.add_comm]
/-- tags -/
theorem t1 : decide (("num" : Str) = "of") = false := by decide +kernel
theorem t2 : decide (("name" : Str) = "of") = false := by decide +kernel
theorem t3 : decide (("any" : Str) = "of") = false := by decide +kernel
theorem t4 : decide (("of" : Str) = "of") = true := by decide +kernel
theorem t5 : decide (("num" : Str) = "name") = false := by decide +kernel
theorem t6 : decide (("num" : Str) = "any") = false := by decide +kernel
theorem t7 : decide (("num" : Str) = "num") = true := by decide +kernel
theorem t8 : decide (("name" : Str) = "num") = false := by decide +kernel
theorem t9 : decide (("name" : Str) = "any") = false := by decide +kernel
theorem t10 : decide (("name" : Str) = "name") = true := by decide +kernel
theorem t11 : decide (("any" : Str) = "num") = false := by decide +kernel
theorem t12 : decide (("any" : Str) = "name") = false := by decide +kernel
theorem t13 : decide (("any" : Str) = "any") = true := by decide +kernel
theorem t14 : decide (("of" : Str) = "num") = false := by decide +kernel
theorem t15 : decide (("of" : Str) = "name") = false := by decide +kernel
theorem t16 : decide (("of" : Str) = "any") = false := by decide +kernel
/-- isinstance -/
theorem kb1 : kitB "int" "int" = some true := by decide +kernel
theorem kb2 : kitB "int" "bool" = some false := by decide +kernel
theorem kb3 : kitB "bool" "int" = some true := by decide +kernel
theorem kb4 : kitB "str" "str" = some true := by decide +kernel
theorem kb5 : kitB "list" "list" = some true := by decide +kernel
theorem kb6 : kitB "tuple" "tuple" = some true := by decide +kernel
theorem kb7 : kitB "str" "int" = some false := by decide +kernel
theorem kb8 : kitB "tuple" "int" = some false := by decide +kernel
theorem kb9 : kitB "dict" "dict" = some true := by decide +kernel
theorem kb10 : kitB "bool" "bool" = some true := by decide +kernel
theorem kb11 : kitB "NoneType" "int" = some false := by decide +kernel
/-- ints and texts of a list -/
theorem intsOf_map (ns : List Int) : intsOf (ns.map PV.int) = some ns := by
  induction ns with
  | nil => rfl
  | cons n r ih => simp [intsOf, ih]
theorem strsOf_map (ns : List Str) : strsOf (ns.map PV.str) = some ns := by
  induction ns with
  | nil => rfl
  | cons n r ih => simp [strsOf, ih]
theorem blsOf_map (ns : List Bool) : blsOf (ns.map PV.bl) = some ns := by
  induction ns with
  | nil => rfl
  | cons n r ih => simp [blsOf, ih]
end
end FL
end
section
set_option linter.all false
set_option maxRecDepth 100000
namespace FL
open PySem PySem.Spec PyProof.Rows L2
noncomputable section
/-! ## bits -/
def andV (x y : PV) (st : Store) : O PV := match x, y with
  | .int i, .int j => some (.int (Builtin.bitAnd i j), st)
  | _, _ => none
def borV (x y : PV) (st : Store) : O PV := match x, y with
  | .int i, .int j => some (.int (Builtin.bitOr i j), st)
  | _, _ => none
open Classical in
def shlV (x y : PV) (st : Store) : O PV := match x, y with
  | .int i, .int j => if CShl i j then some (.int (i * 2 ^ j.toNat), st) else none
  | _, _ => none
def shrV (x y : PV) (st : Store) : O PV := match x, y with
  | .int i, .int j => if 0 ≤ j then some (.int (i / 2 ^ j.toNat), st) else none
  | _, _ => none
section
variable {X : Cx} {W : WX} {ca : Ca}
theorem of_and : OpF X ca (binaryOp .BitAnd) andV := by
  refine ⟨_, op_and, fun H m st x y x' y' Q s rx ry p => ?_⟩
  cases rx with
  | int i => cases ry with
    | int j => exact ⟨i, j, rfl, rfl, p.val s (.int _)⟩
    | _ => exact p.elim
  | _ => exact p.elim
theorem of_bor : OpF X ca (binaryOp .BitOr) borV := by
  refine ⟨_, op_or, fun H m st x y x' y' Q s rx ry p => ?_⟩
  cases rx with
  | int i => cases ry with
    | int j => exact ⟨i, j, rfl, rfl, p.val s (.int _)⟩
    | _ => exact p.elim
  | _ => exact p.elim
theorem of_shl : OpF X ca (binaryOp .LShift) shlV := by
  refine ⟨_, op_shlW, fun H m st x y x' y' Q s rx ry p => ?_⟩
  cases rx with
  | int i => cases ry with
    | int j =>
      simp only [shlV] at p
      split at p
      · rename_i h
        exact ⟨i, j, rfl, rfl, h, p.val s (.int _)⟩
      · exact p.elim
    | _ => exact p.elim
  | _ => exact p.elim
theorem of_shr : OpF X ca (binaryOp .RShift) shrV := by
  refine ⟨_, op_shrN, fun H m st x y x' y' Q s rx ry p => ?_⟩
  cases rx with
  | int i => cases ry with
    | int j =>
      simp only [shrV] at p
      split at p
      · rename_i h
        obtain ⟨k, rfl⟩ := Int.eq_ofNat_of_zero_le h
        exact ⟨i, k, rfl, rfl, p.val s (.int _)⟩
      · exact p.elim
    | _ => exact p.elim
  | _ => exact p.elim
theorem mulOk_b {i j : Int} {a : Nat} (hi : Builtin.Int.intBits i ≤ 1048576) (hj : j.natAbs < 2 ^ a) (ha : a < 1000000) : mulOk i j = true := by
  refine decide_eq_true ?_
  have h1 : i.natAbs.log2 ≤ 1048576 := by
    unfold Builtin.Int.intBits at hi
    split at hi
    · rename_i h
      have : i = 0 := by simpa using h
      subst this
      simp
    · omega
  have h2 : j.natAbs.log2 ≤ a := by
    by_cases h0 : j.natAbs = 0
    · rw [h0]; simp
    · have := (Nat.log2_lt h0).mpr hj
      omega
  omega
/-! ## the law's own call, where the cells' bits are few -/
def spTopB (K : PySem.W.Frag) : Sp := fun vs H Q _ => ∃ (a : Addr) (ns : List Int), vs = [.ref a] ∧ ns.length ≤ 63 ∧ (∀ z ∈ ns, Builtin.Int.intBits z ≤ 1048576) ∧ Only H ∧ SqL K H a (ns.map V.int) ∧ ∀ H', Q (.bl true) H'
theorem top_okB {P : Program} {w : World} {K : PySem.W.Frag} {mg : Str → Option Value} {base : Heap} {ca : Ca} {k : Nat} {f : Addr} {fd : FuncData} {x : Str} {F : Fn} (C : Cal P w K mg base ca k f fd [x] F) (h : ∀ ns : List Int, ns.length ≤ 63 → (∀ z ∈ ns, Builtin.Int.intBits z ≤ 1048576) → ∃ st, F [.frz (ns.map PV.int)] [] = .ok (.bl true) st) : FnOk P w K mg base (L2.CX P w) k f fd [x] (spTopB K) := by
  refine C.ok.imp fun vs H Q E hh => ?_
  obtain ⟨a, ns, rfl, hl, hz, hO, hS, q⟩ := hh
  obtain ⟨st, e⟩ := h ns hl hz
  refine ⟨[], [], [.frz (ns.map PV.int)], ⟨rfl, List.nodup_nil, fun n a o z => by cases z⟩, .cons (.frz ?_ (VRs.ints ns)) .nil, rfl, ?_⟩
  · rcases hS with (hS | hS) | hS
    · rcases hO a with z | ⟨o, xs, z⟩
      · rw [z] at hS; cases hS
      · rw [z] at hS; cases hS
    · exact .inl hS
    · exact .inr hS
  · rw [e]
    intro m' b H' _ _ _ r
    cases r
    exact q H'
/-! ## list(range(..)) -/
open Classical in
def lrgF (fa : FE) : FE := fun e st => (fa e st).bind fun x s1 => match x with
  | .int n => @ite (R PV) (0 ≤ n ∧ n ≤ 16777216) (Classical.propDecidable _) (.ok (.ref s1.length) (s1 ++ [.lst (intL 0 1 n.toNat)])) .no
  | _ => .no
theorem vrs_intL {K : PySem.W.Frag} {H : Hp} {m : List Addr} (n : Nat) : VRs K ca H m (intL 0 1 n) (rgV 0 (n : Int)) := by
  have e : ∀ l : List Nat, VRs K ca H m (l.map fun i : Nat => PV.int (0 + (i : Nat) * 1)) (l.map fun i : Nat => V.int (0 + (i : Nat))) := fun l => by
    induction l with
    | nil => exact .nil
    | cons a r ih =>
      refine .cons ?_ ih
      show VR K ca H m (.int (0 + (a : Int) * 1)) (.int (0 + (a : Int)))
      rw [Int.mul_one]
      exact .int _
  unfold intL rgV
  rw [show ((n : Int) - 0).toNat = n by omega]
  exact e _
theorem je_listRg {a : Expr} {p p2 pos pos2 : Pos} {fa : FE} (hl : X.mg "list" = none) (hm : X.mg "range" = none) (ha : JE X W ca a fa) (hc : X.calm = true := by rfl) (hg : Gl X "list" := by rfl) (hg2 : Gl X "range" := by rfl)
    (na : starEach [a] X.env = (false, eval a X.env) :: starEach [] X.env := by rfl) (na2 : starEach [.Call (.Name "range" p2) [a] [] pos2] X.env = (false, eval (.Call (.Name "range" p2) [a] [] pos2) X.env) :: starEach [] X.env := by rfl) :
    JE X W ca (.Call (.Name "list" p) [.Call (.Name "range" p2) [a] [] pos2] [] pos) (lrgF fa) := by
  obtain ⟨t, pa, r⟩ := ha.ex
  refine ⟨_, pe_listRg hc hg hl (prg_1 hg2 hm pa na) na2, fun σ H m env st Q s e h => ?_⟩
  refine r σ H m env st _ s e (Post.bind h fun x st1 m1 x' H1 p1 k1 s1 r1 h1 => ?_)
  cases r1 with
  | int n =>
    simp only at h1
    split at h1
    · rename_i hn
      refine ⟨n, rfl, RgOk.of_le (Int.le_refl 0) (by omega) (by omega) hn.1, fun q hq => ?_⟩
      obtain ⟨k, rfl⟩ := Int.eq_ofNat_of_zero_le hn.1
      obtain ⟨pD, kD, sD, rD⟩ := upd_l (ca := ca) s1 hq (vrs_intL (K := X.K) (ca := ca) (H := H1) (m := m1) k)
      exact h1 _ _ _ pD kD sD rD
    · exact h1.elim
  | _ => exact h1.elim
/-! ## instances -/
theorem KR.look {K : PySem.W.Frag} {H : Hp} {m : List Addr} {f : Str} : ∀ {fs : List (Str × PV)} {gs : List (Str × V)}, KR K ca H m fs gs → (fs.lookup f = none → gs.lookup f = none) ∧ ∀ v, fs.lookup f = some v → ∃ w, gs.lookup f = some w ∧ VR K ca H m v w
  | _, _, .nil => ⟨fun _ => rfl, fun v h => by cases h⟩
  | (k, x) :: r, (k', y) :: q, .cons h t => by
    obtain ⟨e, rv⟩ := h
    simp only at e rv
    subst e
    have ih := KR.look (f := f) t
    simp only [List.lookup]
    cases c : f == k with
    | true => exact ⟨fun z => (by cases z), fun v z => ⟨y, rfl, by cases z; exact rv⟩⟩
    | false => exact ih
def putP (f : Str) (v : PV) : List (Str × PV) → List (Str × PV)
  | [] => [(f, v)]
  | (g, x) :: r => if g = f then (g, v) :: r else (g, x) :: putP f v r
theorem KR.put {K : PySem.W.Frag} {H : Hp} {m : List Addr} {f : Str} {v : PV} {w : V} (rv : VR K ca H m v w) : ∀ {fs : List (Str × PV)} {gs : List (Str × V)}, KR K ca H m fs gs → KR K ca H m (putP f v fs) (putF f w gs)
  | _, _, .nil => .cons ⟨rfl, rv⟩ .nil
  | (k, x) :: r, (k', y) :: q, .cons h t => by
    obtain ⟨e, rx⟩ := h
    simp only at e rx
    subst e
    unfold putP putF
    by_cases c : k = f
    · rw [if_pos c, if_pos c]
      exact .cons ⟨rfl, rv⟩ t
    · rw [if_neg c, if_neg c]
      exact .cons ⟨rfl, rx⟩ (KR.put rv t)
theorem KR.len {K : PySem.W.Frag} {H : Hp} {m : List Addr} {fs : List (Str × PV)} {gs : List (Str × V)} (h : KR K ca H m fs gs) : fs.length = gs.length := Paired.length h
/-- o.f = v -/
def sfldS (c : String) (f : Str) (fv fo : FE) : FS := fun e st => (fv e st).toS e fun v s1 => (fo e s1).toS e fun o s2 => match o with
  | .ref n => (match s2[n]? with
    | some (.ins c' fs) => if c' = c ∧ fs.length < 1000 then .nx e (s2.set n (.ins c' (putP f v fs))) else .no
    | _ => .no)
  | _ => .no
theorem js_fld {o value : Expr} {f : Str} {c : String} {pos pos' : Pos} {fo fv : FE} (hc : Cls X.K (ca c)) (hn : NoAttr X.K (ca c) f) (hv : JE X W ca value fv) (ho : JE X W ca o fo) (hs : swapsWith value (some (.Attribute o f pos')) pos.line X.env = pure false) :
    JS X W ca (.Assign [.Attribute o f pos'] value pos) (sfldS c f fv fo) := by
  obtain ⟨tv, pv, rv⟩ := hv.ex
  obtain ⟨to', po', ro⟩ := ho.ex
  refine ⟨_, ps_fld po' pv hs, fun σ H m env st D s e h => ?_⟩
  refine rv σ H m env st _ s e (Post.toS h e fun v st1 m1 v' H1 p1 k1 s1 r1 h1 => ?_)
  refine ro σ H1 m1 env st1 _ s1 (e.mono p1 k1) (Post.toS h1 (e.mono p1 k1) fun x st2 m2 x' H2 p2 k2 s2 r2 h2 => ?_)
  cases r2 with
  | ref hn' =>
    rename_i n a
    simp only at h2
    split at h2
    · rename_i c' fs hx
      split at h2
      · rename_i hcc
        obtain ⟨rfl, hl⟩ := hcc
        obtain ⟨dx, gs, ea, rg⟩ := s2.at hx hn'
        have hk := Keep.upd (K := X.K) (o := .ins (ca c') dx (putF f v' gs)) ea (fun _ z => nomatch z) (fun _ _ z => nomatch z)
        refine ⟨a, _, dx, gs, rfl, ea, hc, hn, by rw [← rg.len]; exact hl, ?_⟩
        refine h2 m2 σ _ (List.prefix_refl _) hk (s2.set hn' ea (fun _ z => nomatch z) (fun _ _ z => nomatch z) ⟨dx, _, upd_same, KR.put ((r1.mono p2 k2).mono (List.prefix_refl _) hk) (rg.mono (List.prefix_refl _) hk)⟩) ((e.mono p1 k1).mono p2 (k2.trans hk))
      · exact h2.elim
    · exact h2.elim
  | _ => exact h2.elim
/-- o.m(..) -/
def methF (c : String) (m : Str) (n : Nat) (F : Fn) (ds : List PV) (fo : FE) (fa : FA) : FE := fun e st => (fo e st).bind fun o s1 => match o with
  | .ref i => (match s1[i]? with
    | some (.ins c' fs) => if c' = c ∧ fs.lookup m = none then (fa e s1).bind fun xs s2 => if (o :: (xs ++ ds)).length = n then F (o :: (xs ++ ds)) s2 else .no else .no
    | _ => .no)
  | _ => .no
def tMethSD (C : Addr) (m : Str) (sp : Sp) (dvs : List V) (E : L2.St → XK) (ta : TE) (t : TA) : TE := fun σ H Q => ta σ H fun x H1 => ∃ a dx fs, x = .ref a ∧ H1 a = some (.ins C dx fs) ∧ fs.lookup m = none ∧ t σ H1 fun vs H2 => sp (x :: (vs ++ dvs)) H2 Q (E σ)
section
variable {CX : CXT} {k : Nat} {f C : Addr} {fd : FuncData} {ps : List Str} {sp : Sp} {dvs : List V} {ds : List Value} {E : L2.St → XK} {m : Str} {p pos apos : Pos} {e o : Expr} {es : List Expr} {ta : TE} {t : TA}
theorem pe_methSD {pl : Sem Bool} (he : PE X o ta) (c : Cls X.K C) (hm : Meth X.K C m f) (F : FnOk X.prog X.w X.K X.mg X.base CX k f fd ps sp) (hr : Room k X.A) (hb : Binds X.K fd ps ds) (hd : Vals dvs ds) (hx : ∀ σ, PassesAt CX X σ (E σ)) (ha : PA X (e :: es) t)
    (hst : starEach (e :: es) X.env = (false, eval e X.env) :: starEach es X.env) (hpl : (backTo pos (starEach es X.env)).any (·.1) = false)
    (ht : eval (.Call (.Attribute o m apos) (e :: es) [] pos) X.env = (do
      let ov ← eval o X.env
      standAt apos.atName
      let (f, first) ← holding [ov] (getMethod ov m pl)
      callWith pos f first (backTo pos (starEach (e :: es) X.env)) (backToKw pos (keywordEach [] X.env)))) :
    PE X (.Call (.Attribute o m apos) (e :: es) [] pos) (tMethSD C m sp dvs E ta t) := by
  refine ⟨fun pins s σ H Q I h => ?_⟩
  refine PySem.W.methodCall_KW (pl := pl) (thn (he.run pins s σ H _ I h) fun u s1 ⟨x, H1, I1, rx, a, dx, fs, ex, ea, l, q⟩ => ?_) ht
  subst ex
  obtain rfl : u = Value.ref a := rx
  refine getmeth_ok I1 ea c hm l ?_
  refine PySem.W.callWith_K (first := [.ref a]) (h₀ := X.base) I.ok.mod.kin hm.kp (thn (ha.run pos pins s1 σ H1 _ I1 q) fun us s2 ⟨vs, H2, I2, r, q2⟩ => ⟨I2.kIn, ?_⟩) hst hpl
  exact run_fnSD (us := .ref a :: us) (vs := .ref a :: vs) F hr hb hd (hx σ) I2 (.cons rfl r) q2
theorem pe_methSD0 {pl : Sem Bool} (he : PE X o ta) (c : Cls X.K C) (hm : Meth X.K C m f) (F : FnOk X.prog X.w X.K X.mg X.base CX k f fd ps sp) (hr : Room k X.A) (hb : Binds X.K fd ps ds) (hd : Vals dvs ds) (hx : ∀ σ, PassesAt CX X σ (E σ))
    (ht : eval (.Call (.Attribute o m apos) [] [] pos) X.env = (do
      let ov ← eval o X.env
      standAt apos.atName
      let (f, first) ← holding [ov] (getMethod ov m pl)
      callWith pos f first (backTo pos (starEach [] X.env)) (backToKw pos (keywordEach [] X.env)))) :
    PE X (.Call (.Attribute o m apos) [] [] pos) (tMethSD C m sp dvs E ta tNil) := by
  refine ⟨fun pins s σ H Q I h => ?_⟩
  refine PySem.W.methodCall_KW (pl := pl) (thn (he.run pins s σ H _ I h) fun u s1 ⟨x, H1, I1, rx, a, dx, fs, ex, ea, l, q⟩ => ?_) ht
  subst ex
  obtain rfl : u = Value.ref a := rx
  refine getmeth_ok I1 ea c hm l ?_
  exact PySem.W.callWith_K0 (first := [.ref a]) I1.kIn hm.kp (run_fnSD (us := [.ref a]) (vs := [.ref a]) F hr hb hd (hx σ) I1 (.cons rfl .nil) q)
end
theorem je_meth {k n : Nat} {f : Addr} {fd : FuncData} {ps : List Str} {F : Fn} {ds : List PV} {c : String} {m : Str} {pos apos : Pos} {o e : Expr} {es : List Expr} {fo : FE} {fa : FA} {pl : Sem Bool} (tk : Takes X W) (hc : Cls X.K (ca c)) (hm : Meth X.K (ca c) m f) (C : Cal X.prog X.w X.K X.mg X.base ca k f fd ps F) (b : Bnd X.K ca fd ps ds) (hr : Room k X.A)
    (ho : JE X W ca o fo) (ha : JA X W ca (e :: es) fa) (hn : ps.length = n := by rfl)
    (hst : starEach (e :: es) X.env = (false, eval e X.env) :: starEach es X.env := by rfl) (hpl : (backTo pos (starEach es X.env)).any (·.1) = false := by rfl)
    (ht : eval (.Call (.Attribute o m apos) (e :: es) [] pos) X.env = (do
      let ov ← eval o X.env
      standAt apos.atName
      let (f, first) ← holding [ov] (getMethod ov m pl)
      callWith pos f first (backTo pos (starEach (e :: es) X.env)) (backToKw pos (keywordEach [] X.env))) := by rfl) :
    JE X W ca (.Call (.Attribute o m apos) (e :: es) [] pos) (methF c m n F ds fo fa) := by
  subst hn
  obtain ⟨to', po', ro⟩ := ho.ex
  obtain ⟨t, pa, r⟩ := ha.ex
  obtain ⟨us, vs, hb, hd, rd⟩ := b.ex
  refine ⟨_, pe_methSD (E := WE W) (pl := pl) po' hc hm C.ok hr hb hd (passAt tk) pa hst hpl ht, fun σ H m0 env st Q s e h => ?_⟩
  refine ro σ H m0 env st _ s e (Post.bind h fun x st1 m1 x' H1 p1 k1 s1 r1 h1 => ?_)
  cases r1 with
  | ref hn' =>
    rename_i i a
    simp only at h1
    split at h1
    · rename_i c' fs hx
      split at h1
      · rename_i hcc
        obtain ⟨rfl, hl⟩ := hcc
        obtain ⟨dx, gs, ea, rg⟩ := s1.at hx hn'
        refine ⟨a, dx, gs, rfl, ea, rg.look.1 hl, r σ H1 m1 env st1 _ s1 (e.mono p1 k1) (Post.bind h1 fun xs st2 m2 xs' H2 p2 k2 s2 r2 h2 => ?_)⟩
        split at h2
        · rename_i hl2
          exact ⟨m2, st2, _, s2, .cons (.ref (pre_get p2 hn')) (r2.append (rd H2 m2)), hl2, h2⟩
        · exact h2.elim
      · exact h1.elim
    · exact h1.elim
  | _ => exact h1.elim
theorem je_meth0 {k n : Nat} {f : Addr} {fd : FuncData} {ps : List Str} {F : Fn} {ds : List PV} {c : String} {m : Str} {pos apos : Pos} {o : Expr} {fo : FE} {pl : Sem Bool} (tk : Takes X W) (hc : Cls X.K (ca c)) (hm : Meth X.K (ca c) m f) (C : Cal X.prog X.w X.K X.mg X.base ca k f fd ps F) (b : Bnd X.K ca fd ps ds) (hr : Room k X.A)
    (ho : JE X W ca o fo) (hn : ps.length = n := by rfl)
    (ht : eval (.Call (.Attribute o m apos) [] [] pos) X.env = (do
      let ov ← eval o X.env
      standAt apos.atName
      let (f, first) ← holding [ov] (getMethod ov m pl)
      callWith pos f first (backTo pos (starEach [] X.env)) (backToKw pos (keywordEach [] X.env))) := by rfl) :
    JE X W ca (.Call (.Attribute o m apos) [] [] pos) (methF c m n F ds fo nilA) := by
  subst hn
  obtain ⟨to', po', ro⟩ := ho.ex
  obtain ⟨us, vs, hb, hd, rd⟩ := b.ex
  refine ⟨_, pe_methSD0 (E := WE W) (pl := pl) po' hc hm C.ok hr hb hd (passAt tk) ht, fun σ H m0 env st Q s e h => ?_⟩
  refine ro σ H m0 env st _ s e (Post.bind h fun x st1 m1 x' H1 p1 k1 s1 r1 h1 => ?_)
  cases r1 with
  | ref hn' =>
    rename_i i a
    simp only at h1
    split at h1
    · rename_i c' fs hx
      split at h1
      · rename_i hcc
        obtain ⟨rfl, hl⟩ := hcc
        obtain ⟨dx, gs, ea, rg⟩ := s1.at hx hn'
        refine ⟨a, dx, gs, rfl, ea, rg.look.1 hl, ?_⟩
        simp only [nilA, R.bind, List.nil_append] at h1
        split at h1
        · rename_i hl2
          exact ⟨m1, st1, _, s1, .cons (.ref hn') (rd H1 m1), hl2, h1⟩
        · exact h1.elim
      · exact h1.elim
    · exact h1.elim
  | _ => exact h1.elim
/-- C(..): its __init__ lets nothing out -/
def makeF (c : String) (n : Nat) (F : Fn) (fa : FA) : FE := fun e st => (fa e st).bind fun xs s1 => if xs.length + 1 = n then (match F (.ref s1.length :: xs) (s1 ++ [.ins c []]) with
  | .ok .non s2 => .ok (.ref s1.length) s2
  | _ => .no) else .no
theorem passes_none {P : Program} {w : World} : Passes (L2.CX P w) X (fun _ _ _ => False) := fun _ _ _ _ _ _ _ c => by
  obtain ⟨_, _, _, _, _, _, _, _, _, _, _, _, z⟩ := c
  exact z.elim
theorem je_make {k n : Nat} {f : Addr} {fd : FuncData} {ps : List Str} {F : Fn} {c : String} {x : Str} {p pos : Pos} {e : Expr} {es : List Expr} {fa : FA} (M : Mk X.K (ca c) f) (C : Cal X.prog X.w X.K X.mg X.base ca k f fd ps F) (b : Bnd X.K ca fd ps []) (hr : Room (k + 1) X.A) (hm : X.mg x = some (.ref (ca c)))
    (ha : JA X W ca (e :: es) fa) (hn : ps.length = n := by rfl) (hg : Gl X x := by rfl) (hdb : (x == ("__debug__" : Str)) = false := by decide) (he : starEach (e :: es) X.env = (false, eval e X.env) :: starEach es X.env := by rfl) (hpl : (backTo pos (starEach es X.env)).any (·.1) = false := by rfl) :
    JE X W ca (.Call (.Name x p) (e :: es) [] pos) (makeF c n F fa) := by
  subst hn
  obtain ⟨t, pa, r⟩ := ha.ex
  obtain ⟨us, vs, hb, hd, rd⟩ := b.ex
  refine ⟨_, pe_make (E := fun _ _ _ => False) M C.ok hr hg hm hb hd passes_none pa hdb he hpl, fun σ H m0 env st Q s e h => ?_⟩
  refine r σ H m0 env st _ s e (Post.bind h fun xs st1 m1 xs' H1 p1 k1 s1 r1 h1 => ?_)
  intro a dx ea edx ne
  split at h1
  · rename_i hl
    have kx := Keep.new (K := X.K) (o := .own a) edx
    have sx : SR X.K ca (upd H1 dx (.own a)) m1 st1 := s1.skip edx
    have ea' : (upd H1 dx (.own a)) a = none := by rw [upd_ne fun z => ne z.symm]; exact ea
    have ka := Keep.new (K := X.K) (o := .ins (ca c) dx []) ea'
    have sa : SR X.K ca (upd (upd H1 dx (.own a)) a (.ins (ca c) dx [])) (m1 ++ [a]) (st1 ++ [.ins c []]) := sx.new ea' ⟨dx, [], upd_same, .nil⟩
    have rn : ∀ {Hx : Hp}, VR X.K ca Hx (m1 ++ [a]) (.ref st1.length) (.ref a) := fun {Hx} => .ref (by rw [← s1.len, List.getElem?_append_right (Nat.le_refl _), Nat.sub_self]; rfl)
    have rds := rd (upd (upd H1 dx (.own a)) a (.ins (ca c) dx [])) (m1 ++ [a])
    refine ⟨m1 ++ [a], st1 ++ [.ins c []], .ref st1.length :: (xs ++ []), sa, .cons rn ((r1.mono (List.prefix_append _ _) (kx.trans ka)).append rds), by rw [List.append_nil, List.length_cons]; exact hl, ?_⟩
    rw [List.append_nil]
    cases q : F (.ref st1.length :: xs) (st1 ++ [.ins c []]) with
    | er y s2 => rw [q] at h1; exact h1.elim
    | no => rw [q] at h1; exact h1.elim
    | ok v s2 =>
      rw [q] at h1
      cases v with
      | non =>
        intro m2 b2 H2 p2 k2 s2' r2
        cases r2
        exact ⟨rfl, h1 m2 _ H2 ((List.prefix_append _ _).trans p2) ((kx.trans ka).trans k2) s2' (.ref (pre_get p2 (by rw [← s1.len, List.getElem?_append_right (Nat.le_refl _), Nat.sub_self]; rfl)))⟩
      | _ => exact h1.elim
  · exact h1.elim
/-! ## a call of a local that holds a def -/
def callTF (n i : Nat) (Tb : List (String × Fn)) (fa : FA) : FE := fun e st => match e[i]? with
  | some (some (.cls nm)) => (match Tb.lookup nm with
    | some F => (fa e st).bind fun xs s1 => if xs.length = n then F xs s1 else .no
    | none => .no)
  | _ => .no
def tCallT (S : Addr → Sp → Prop) (i : Nat) (E : L2.St → XK) (t : TA) : TE := fun σ H Q => ∃ f sp, σ[i]? = some (some (.ref f)) ∧ S f sp ∧ t σ H fun vs H1 => sp vs H1 Q (E σ)
theorem pe_callT {CX : CXT} {k i : Nat} {S : Addr → Sp → Prop} {E : L2.St → XK} {x : Str} {p pos : Pos} {e : Expr} {es : List Expr} {t : TA} (A : ∀ f sp, S f sp → ∃ fd ps, FnOk X.prog X.w X.K X.mg X.base CX k f fd ps sp ∧ PySem.W.keepIn X.K (.ref f) = true ∧ Binds X.K fd ps []) (hr : Room k X.A) (hx : ∀ σ, PassesAt CX X σ (E σ)) (hN : X.N[i]? = some x) (hv : Vis X.env.scope x) (ha : PA X (e :: es) t)
    (hdb : (x == ("__debug__" : Str)) = false) (hcd : (x == ("__classdict__" : Str)) = false)
    (he : starEach (e :: es) X.env = (false, eval e X.env) :: starEach es X.env) (hpl : (backTo pos (starEach es X.env)).any (·.1) = false) : PE X (.Call (.Name x p) (e :: es) [] pos) (tCallT S i E t) := by
  refine ⟨fun pins s σ H Q I h => ?_⟩
  obtain ⟨f, sp, hs, hS, ht⟩ := h
  obtain ⟨fd, ps, F, hk, hb⟩ := A f sp hS
  refine wpAny_Call_Name_kw (thn ((pe_var (pos := p) hN hv hdb hcd).run pins s σ H (fun v H1 => v = .ref f ∧ H1 = H) I ⟨.ref f, hs, rfl, rfl⟩) fun u s1 ⟨v, H1, I1, r1, q1⟩ => ?_)
  obtain ⟨rfl, rfl⟩ := q1
  cases r1
  refine PySem.W.callWith_K (h₀ := X.base) I.ok.mod.kin hk (thn (ha.run pos pins s1 σ _ _ I1 ht) fun us s2 ⟨vs, H2, I2, r, q⟩ => ⟨I2.kIn, ?_⟩) he hpl
  exact run_fnSD (dvs := []) F hr hb .nil (hx σ) I2 r (by rw [List.append_nil]; exact q)
theorem je_callT {k n i : Nat} {Tb : List (String × Fn)} {x : Str} {p pos : Pos} {e : Expr} {es : List Expr} {fa : FA} (tk : Takes X W) (hT : ∀ q ∈ Tb, ∃ fd ps, Cal X.prog X.w X.K X.mg X.base ca k (ca q.1) fd ps q.2 ∧ ps.length = n ∧ Binds X.K fd ps []) (hr : Room k X.A) (ha : JA X W ca (e :: es) fa)
    (hN : X.N[i]? = some x := by rfl) (hv : Vis X.env.scope x := by first | exact .inl rfl | exact .inr rfl) (hdb : (x == ("__debug__" : Str)) = false := by decide) (hcd : (x == ("__classdict__" : Str)) = false := by decide)
    (he : starEach (e :: es) X.env = (false, eval e X.env) :: starEach es X.env := by rfl) (hpl : (backTo pos (starEach es X.env)).any (·.1) = false := by rfl) :
    JE X W ca (.Call (.Name x p) (e :: es) [] pos) (callTF n i Tb fa) := by
  obtain ⟨t, pa, r⟩ := ha.ex
  refine ⟨_, pe_callT (k := k) (i := i) (E := WE W) (S := fun f sp => ∃ q ∈ Tb, f = ca q.1 ∧ sp = spF X.K ca n q.2) (fun f sp h => ?_) hr (passAt tk) hN hv pa hdb hcd he hpl, fun σ H m env st Q s e h => ?_⟩
  · obtain ⟨q, hq, rfl, rfl⟩ := h
    obtain ⟨fd, ps, C, hl, b⟩ := hT q hq
    subst hl
    exact ⟨fd, ps, C.ok, C.kp, b⟩
  · unfold callTF at h
    split at h
    · rename_i nm hi
      split at h
      · rename_i F hF
        have hq : ∃ q ∈ Tb, q.1 = nm ∧ q.2 = F := by
          clear h hT
          induction Tb with
          | nil => cases hF
          | cons a q ih =>
            simp only [List.lookup] at hF
            split at hF
            · rename_i hb
              cases hF
              exact ⟨a, List.mem_cons_self, (eq_of_beq hb).symm, rfl⟩
            · obtain ⟨z, h1, h2⟩ := ih hF
              exact ⟨z, List.mem_cons_of_mem _ h1, h2⟩
        obtain ⟨q, hq, rfl, rfl⟩ := hq
        obtain ⟨v, hv', rv⟩ := e.2 i _ hi
        cases rv
        refine ⟨ca q.1, _, hv', ⟨q, hq, rfl, rfl⟩, r σ H m env st _ s e (Post.bind h fun xs st1 m1 xs' H1 p1 k1 s1 r1 h1 => ?_)⟩
        split at h1
        · rename_i hl
          exact ⟨m1, st1, xs, s1, r1, hl, h1⟩
        · exact h1.elim
      · exact h.elim
    · exact h.elim
end
end
end FL
end
section
set_option linter.all false
set_option maxRecDepth 100000
namespace FL
open PySem PySem.Spec PyProof.Rows L2
noncomputable section
/-! ## what is never reached -/
def noS : FS := fun _ _ => .no
def noE : FE := fun _ _ => .no
section
variable {X : Cx} {W : WX} {ca : Ca}
theorem js_no {s : Stmt} : JS X W ca s noS := ⟨fun _ _ _ => False, ⟨fun _ _ _ _ _ _ h => h.elim⟩, fun _ _ _ _ _ _ _ _ h => h⟩
theorem je_no {e : Expr} : JE X W ca e noE := ⟨fun _ _ _ => False, ⟨fun _ _ _ _ _ _ h => h.elim⟩, fun _ _ _ _ _ _ _ _ h => h⟩
/-! ## a try whose body raises nothing -/
def thruS (f g : FS) : FS := fun e st => match f e st with
  | .nx e1 s1 => g e1 s1
  | .er _ _ _ => .no
  | r => r
theorem js_thru {body orelse : List Stmt} {h0 : ExceptHandler} {hs : List ExceptHandler} {pos : Pos} {f g : FS} (hb : JSs X.nox (fun _ _ _ _ => False) ca body f) (ho : JSs X W ca orelse g) : JS X W ca (.Try body (h0 :: hs) orelse [] pos) (thruS f g) := by
  obtain ⟨t, p, r⟩ := hb.ex
  obtain ⟨u, q, z⟩ := ho.ex
  refine ⟨_, ps_try_thru p q, fun σ H m env st D s e h => ?_⟩
  refine r σ H m env st _ s e ?_
  unfold thruS at h
  cases c : f env st with
  | nx e1 s1 =>
    rw [c] at h
    intro m1 σ1 H1 p1 k1 s2 e2
    exact z σ1 H1 m1 e1 s1 D s2 e2 (PostS.mono h p1 k1)
  | rt v s1 => rw [c] at h; exact h
  | bk e1 s1 => rw [c] at h; exact h
  | ct e1 s1 => rw [c] at h; exact h
  | er x e1 s1 => rw [c] at h; exact h.elim
  | no => rw [c] at h; exact h
/-! ## a field is read -/
def fldF (c : String) (f : Str) (fo : FE) : FE := fun e st => (fo e st).bind fun o s1 => match o with
  | .ref n => (match s1[n]? with
    | some (.ins c' fs) => if c' = c then (match fs.lookup f with
      | some v => .ok v s1
      | none => .no) else .no
    | _ => .no)
  | _ => .no
theorem je_fld {o : Expr} {f : Str} {c : String} {pos : Pos} {fo : FE} (hc : Cls X.K (ca c)) (hn : NoAttr X.K (ca c) f) (ho : JE X W ca o fo) (hb : attributeBase o f X.env (eval o X.env) = eval o X.env := by rfl) : JE X W ca (.Attribute o f pos) (fldF c f fo) := by
  obtain ⟨to', po', ro⟩ := ho.ex
  refine ⟨_, pe_fld po' hb, fun σ H m env st Q s e h => ?_⟩
  refine ro σ H m env st _ s e (Post.bind h fun x st1 m1 x' H1 p1 k1 s1 r1 h1 => ?_)
  cases r1 with
  | ref hn' =>
    rename_i n a
    simp only at h1
    split at h1
    · rename_i c' fs hx
      split at h1
      · rename_i hcc
        subst hcc
        obtain ⟨dx, gs, ea, rg⟩ := s1.at hx hn'
        split at h1
        · rename_i v hv
          obtain ⟨w, hw, rv⟩ := rg.look.2 v hv
          exact ⟨a, ca c', dx, gs, w, rfl, ea, hc, hn, hw, h1 m1 w H1 (List.prefix_refl _) Keep.refl s1 rv⟩
        · exact h1.elim
      · exact h1.elim
    · exact h1.elim
  | _ => exact h1.elim
end
end
end FL
namespace RZ
open PySem PySem.Spec PyProof.Rows L2
section
variable {prog : Program} {w : World} {A : Around} {E : Value → Shared → Prop} {s : Shared}
theorem extend_revL {R : Result → Shared → Prop} {it l : Addr} {items : Array Value} (hh : A.handled = none) (hit : s.heap.IsRevIter it l ((items.size : Int) - 1)) (hl : s.heap.IsList l items) (hne : l ≠ it) (hn : items.size ≤ sizeLine) (S : Addr) (res : Value) (c0 : Nat)
    (hSi : S ≠ it) (hSl : S ≠ l) (hS : s.heap.get? S = some { cls := .type "list", data := .seq #[] c0 })
    (hR : ∀ h' tk acc' c', (∀ b o, b ≠ S → b ≠ it → s.heap.get? b = some o → h'.get? b = some o) → h'.get? S = some { cls := .type "list", dict := none, data := .seq acc' c', slots := #[] } →
      ItemsOf (fun i v => items[items.size - 1 - i]? = some v) acc' items.size → R (.ok (.ret res)) { s with heap := h', toks := tk }) :
    wpAny (model prog w) A.in1 (Builtin.List.listExtendWith (.ref S) (.ref it) res)
      (fun fin s' => match fin with | .done f => R (.ok f) s' | .again c' => c'.quiet = true ∧ codeAny (model prog w) A c' R s') (fun e s' => R (.error e) s') s := by
  have W := (Walks.listRev (prog := prog) (w := w) (A := A.in1) hh it l hne items).toS
  have hSf : S ∉ [it, l] := by simp only [List.mem_cons, List.not_mem_nil, or_false, not_or]; exact ⟨hSi, hSl⟩
  have hT : s.TypeIs (.ref it) "list_reverseiterator" := Heap.IsRevIter.typeIs hit
  have h1 : Builtin.List.listSameRef (.ref S) (.ref it) = false := by simp [Builtin.List.listSameRef, hSi]
  unfold Builtin.List.listExtendWith
  refine wpAny_bind (wpAny_typeOf hT ?_)
  rw [if_neg (by rw [h1]; decide)]
  refine wpAny_bind (wpAny_pyIter_revIter hit ?_)
  refine wpAny_bind (wpAny_holding ?_)
  unfold Builtin.List.listLengthHint
  refine wpAny_bind (wpAny_specialOf hT RT.nolen_lri ?_)
  show wpAny _ A.in1 (specialOf (Value.ref it) (Str.ofString "__length_hint__") >>= _) _ _ _
  refine wpAny_bind (wpAny_specialOf hT RT.hint_lri ?_)
  generalize hid : ("list_reverseiterator.__length_hint__" : String) = id0
  wp_delta
  rw [show splitId id0 = some ("list_reverseiterator", "__length_hint__") from by subst hid; decide +kernel]
  subst hid
  refine wpAny_bind (wpAny_isInstance (b := true) hT (by rw [isSubtype_type]; kernel_rfl) ?_)
  refine wpAny_pure ?_
  rw [if_neg (by decide)]
  have e0 : ((items.size : Nat) : Int) - 1 - ((0 : Nat) : Int) = (items.size : Int) - 1 := by omega
  refine wpAny_pure ⟨plainId_quiet F.plain_extend_loop _, codeAny_extend_loopS W hn _ hSf _ items.size 0 _ _ _ rfl (Nat.zero_le _) ⟨Nat.zero_le _, by rw [e0]; exact hit, hl⟩ hS (ItemsOf.nil _) fun s' acc' c' hm hS' hacc => ?_⟩
  rw [Moved.eq_with hm]
  refine hR s'.heap s'.toks acc' c' (fun b o hb hb2 e => hm.heap b o (fun hmem => ?_) e) hS' hacc
  rcases List.mem_cons.mp hmem with e' | hmem
  · exact hb e'
  · exact hb2 (List.mem_singleton.mp hmem)
theorem init_revL {R : Result → Shared → Prop} {it l : Addr} {items : Array Value} (hh : A.handled = none) (hit : s.heap.IsRevIter it l ((items.size : Int) - 1)) (hl : s.heap.IsList l items) (hne : l ≠ it) (hn : items.size ≤ sizeLine) (S : Addr)
    (hSi : S ≠ it) (hSl : S ≠ l) (hS : s.heap.get? S = some { cls := .type "list", data := .seq #[] })
    (hR : ∀ h' tk acc' c', (∀ b o, b ≠ S → b ≠ it → s.heap.get? b = some o → h'.get? b = some o) → h'.get? S = some { cls := .type "list", dict := none, data := .seq acc' c', slots := #[] } →
      ItemsOf (fun i v => items[items.size - 1 - i]? = some v) acc' items.size → R (.ok (.ret .none)) { s with heap := h', toks := tk }) :
    wpAny (model prog w) A.in1 (Builtin.«list.__init__» ⟨[.ref S, .ref it], []⟩)
      (fun fin s' => match fin with | .done f => R (.ok f) s' | .again c' => c'.quiet = true ∧ codeAny (model prog w) A c' R s') (fun e s' => R (.error e) s') s := by
  show wpAny _ A.in1 (do let old ← Builtin.List.listItems (.ref S); Builtin.List.listUpdate (.ref S) (fun _ => #[]); letGo old.toList.reverse; Builtin.List.listExtendWith (.ref S) (.ref it) .none) _ _ s
  refine wpAny_bind ?_
  unfold Builtin.List.listItems
  refine wpAny_bind (wpAny_seqItems hS rfl (wpAny_pure ?_))
  show wpAny _ _ (updateSeq S (fun _ => #[]) >>= fun _ => letGo (#[] : Array Value).toList.reverse >>= fun _ => Builtin.List.listExtendWith (.ref S) (.ref it) .none) _ _ s
  refine wpAny_bind (wpAny_updateSeq hS rfl ?_)
  have hS₂ := Heap.get?_update_self (Obj.mapSeq (fun _ => (#[] : Array Value))) hS rfl
  have oth : ∀ b o, b ≠ S → s.heap.get? b = some o → (s.heap.update S (Obj.mapSeq (fun _ => (#[] : Array Value)))).get? b = some o :=
    fun b o hb e => (Heap.get?_update_other _ _ (Ne.symm hb)).trans e
  refine wpAny_bind (wpAny_letGo ?_)
  refine extend_revL hh (hit.at fun o e => oth _ _ (Ne.symm hSi) e) (hl.at fun o e => oth _ _ (Ne.symm hSl) e) hne hn _ _ _ hSi hSl hS₂ fun h' tk acc' c' hk hS' hacc => ?_
  exact hR h' tk acc' c' (fun b o hb hb2 e => hk b o hb hb2 (oth b o hb e)) hS' hacc
theorem call_list_rev {it l : Addr} {items : Array Value} {Q : Value → Shared → Prop} (hh : A.handled = none) (hit : s.heap.IsRevIter it l ((items.size : Int) - 1)) (hl : s.heap.IsList l items) (hne : l ≠ it) (hn : items.size ≤ sizeLine)
    (hQ : ∀ h' tk acc' c', (∀ b o, b ≠ it → s.heap.get? b = some o → h'.get? b = some o) → h'.get? s.heap.objs.size = some { cls := .type "list", dict := none, data := .seq acc' c', slots := #[] } →
      ItemsOf (fun i v => items[items.size - 1 - i]? = some v) acc' items.size → Q (.ref s.heap.objs.size) { s with heap := h', toks := tk }) :
    wpAny (model prog w) A (call (.type "list") [.ref it]) Q E s := by
  obtain ⟨oi, hoi, _⟩ := id hit
  obtain ⟨ol, hol, _⟩ := id hl
  have hSi : s.heap.objs.size ≠ it := Nat.ne_of_gt (Heap.lt_size hoi)
  have hSl : s.heap.objs.size ≠ l := Nat.ne_of_gt (Heap.lt_size hol)
  refine callType_codes (Q₁ := fun obj s₁ => obj = .ref s.heap.objs.size ∧ s₁ = { s with heap := s.heap.push { cls := .type "list", data := .seq #[] } }) F.called_list (F.typeCall_list_1 _) F.entry_list_init
    (code_list_new _ ⟨rfl, rfl⟩) fun obj s₁ h₁ => ?_
  obtain ⟨rfl, rfl⟩ := h₁
  have hS : (s.heap.push { cls := .type "list", data := .seq #[] }).get? s.heap.objs.size = some { cls := .type "list", data := .seq #[] } := Heap.get?_push_size _ rfl
  refine ⟨⟨_, hS, rfl⟩, F.args_list_init_2 _ _, init_revL (A := A.in1) hh (hit.at fun o e => Heap.get?_push_of_some _ e) (hl.push _) hne hn _ hSi hSl hS fun h' tk acc' c' hk hS' hacc => ?_⟩
  exact ⟨rfl, hQ h' tk acc' c' (fun b o hb e => hk b o (Nat.ne_of_lt (Heap.lt_size e)) hb (Heap.get?_push_of_some _ e)) hS' hacc⟩
end
section
variable {X : Cx}
def tLstRev (K : PySem.W.Frag) (te : TE) : TE := fun σ H Q => te σ H fun v H1 => ∃ (a : Addr) (xs : List V), v = .ref a ∧ SqL K H1 a xs ∧ ∀ q, H1 q = none → Q (.ref q) (upd H1 q (.lst xs.reverse))
theorem pe_lstRev {e : Expr} {te : TE} {p p2 pos pos2 : Pos} (hc : X.calm = true) (hg : Gl X "list") (hm : X.mg "list" = none) (hg2 : Gl X "reversed") (hm2 : X.mg "reversed" = none) (he : PE X e te)
    (hs : starEach [e] X.env = (false, eval e X.env) :: starEach [] X.env)
    (hs2 : starEach [.Call (.Name "reversed" p2) [e] [] pos2] X.env = (false, eval (.Call (.Name "reversed" p2) [e] [] pos2) X.env) :: starEach [] X.env) :
    PE X (.Call (.Name "list" p) [.Call (.Name "reversed" p2) [e] [] pos2] [] pos) (tLstRev X.K te) := by
  refine ⟨fun pins s σ H Q I h => ?_⟩
  refine Call_ (ld_blt I hg hm boot_list (PyProof.Rows.callWith_type1 (args_cons (Call_ (ld_blt I hg2 hm2 PyProof.Rows.boot_reversed (PyProof.Rows.callWith_type1 (args_cons (thn (he.run pins s σ H _ I h) fun u s1 ⟨v, H1, I1, r1, q1⟩ => args_nil ?_) hs) hs rfl))) hs2) hs2 rfl))
  obtain ⟨a, xs, ev, hq, q⟩ := q1
  subst ev
  obtain rfl : u = Value.ref a := r1
  obtain ⟨its, rv, p', hz⟩ := I1.list hq
  refine call_reversed_list p'.isList (args_nil ?_)
  have k0 : ∀ b o, s1.heap.get? b = some o → (s1.heap.push (revObj a ((its.toArray.size : Int) - 1))).get? b = some o := fun b o e => Heap.get?_push_of_some _ e
  have I2 : Inv X pins σ H1 { s1 with heap := s1.heap.push (revObj a ((its.toArray.size : Int) - 1)) } := I1.kept (t' := s1.toks) k0
  have fp := I1.fpOk (H' := H1) (b := s1.heap.objs.size) (Nat.le_refl _) (I1.hok.fresh (Nat.le_refl _))
  have hl := p'.isList
  obtain ⟨ol, hol, _⟩ := id hl
  have hne : a ≠ s1.heap.objs.size := Nat.ne_of_lt (Heap.lt_size hol)
  have hn : its.toArray.size ≤ sizeLine := by rw [List.size_toArray, ← rv.length]; exact hz
  refine call_list_rev (s := { s1 with heap := s1.heap.push (revObj a ((its.toArray.size : Int) - 1)) }) (I1.ok.hd hc) ⟨_, Heap.get?_push_size _ rfl, rfl, rfl⟩ (hl.push _) hne hn fun h' tk acc c' hk e' hi => ?_
  refine ⟨.ref _, upd H1 _ (.lst xs.reverse), I2.turnedNew (t' := tk) (ch := [s1.heap.objs.size]) (fun b o hb e => hk b o (by simpa using hb) e) (fun b hb => by rw [List.mem_singleton.mp hb]; exact fp) (Nat.le_refl _)
    (show ObjOk X.prog X.w _ _ _ (.lst xs.reverse) from ⟨by rw [List.length_reverse]; exact hz, acc.toList, c', RT.vals_rev rv hi, by rw [Array.toArray_toList]; exact e'⟩), rfl, q _ (I2.hok.fresh (Nat.le_refl _))⟩
end
end RZ
namespace FL
open PySem PySem.Spec PyProof.Rows L2
noncomputable section
section
variable {X : Cx} {W : WX} {ca : Ca}
/-! ## list(reversed(l)) -/
def lrvF (fa : FE) : FE := fun e st => (fa e st).bind fun x s1 => match lstAt s1 x with
  | some xs => .ok (.ref s1.length) (s1 ++ [.lst xs.reverse])
  | none => .no
theorem je_listRev {a : Expr} {p p2 pos pos2 : Pos} {fa : FE} (hl : X.mg "list" = none) (hm : X.mg "reversed" = none) (ha : JE X W ca a fa) (hc : X.calm = true := by rfl) (hg : Gl X "list" := by rfl) (hg2 : Gl X "reversed" := by rfl)
    (na : starEach [a] X.env = (false, eval a X.env) :: starEach [] X.env := by rfl) (na2 : starEach [.Call (.Name "reversed" p2) [a] [] pos2] X.env = (false, eval (.Call (.Name "reversed" p2) [a] [] pos2) X.env) :: starEach [] X.env := by rfl) :
    JE X W ca (.Call (.Name "list" p) [.Call (.Name "reversed" p2) [a] [] pos2] [] pos) (lrvF fa) := by
  obtain ⟨t, pa, r⟩ := ha.ex
  refine ⟨_, RZ.pe_lstRev hc hg hl hg2 hm pa na na2, fun σ H m env st Q s e h => ?_⟩
  refine r σ H m env st _ s e (Post.bind h fun x st1 m1 x' H1 p1 k1 s1 r1 h1 => ?_)
  cases r1 with
  | frz hr rr =>
    obtain ⟨vs, r2⟩ := And.intro hr.sq rr
    refine ⟨_, _, rfl, hr.sq, fun q hq => ?_⟩
    simp only [lstAt] at h1
    obtain ⟨pD, kD, sD, rD⟩ := upd_l (K := X.K) (ca := ca) s1 hq rr.rev
    exact h1 _ _ _ pD kD sD rD
  | ref hn' =>
    rename_i n a'
    simp only [lstAt] at h1
    split at h1
    · rename_i xs hx
      split at hx
      · rename_i ys hy
        cases hx
        obtain ⟨vs, e1, r2⟩ := s1.at hy hn'
        refine ⟨_, vs, rfl, SqL.of e1, fun q hq => ?_⟩
        obtain ⟨pD, kD, sD, rD⟩ := upd_l (K := X.K) (ca := ca) s1 hq r2.rev
        exact h1 _ _ _ pD kD sD rD
      · cases hx
    · exact h1.elim
  | _ => exact h1.elim
end
section
variable {P : Program} {w : World} {K : PySem.W.Frag} {mg : Str → Option Value} {base : Heap} {ca : Ca}
/-! ## a def with defaults -/
theorem cal_mkD {x qual : Str} {st : Stmt} {f : Addr} {fd : FuncData} {N ps : List Str} {k n : Nat} {body : FS} {dvs : List V} (F : L2.FunD K x qual (defArgs st) (defBody st) (defScope st) dvs [] f fd) (S : FnScope N ps (defScope st)) (hn : N.length = n)
    (hbody : ∀ (cdv : Value) (A : Around) (outer : List PySem.Env) (s : Shared) (H : Hp) (E : XK), Room k (A.deeper (envOfC qual (defScope st) s.heap.objs.size f cdv)) →
      Takes (cxOf (L2.CX P w) P w K mg base N qual (defScope st) f cdv A outer s H E) (fun cls d _ H => E cls d H) →
      PassesOwn (model P w) (cxOf (L2.CX P w) P w K mg base N qual (defScope st) f cdv A outer s H E).A (cxOf (L2.CX P w) P w K mg base N qual (defScope st) f cdv A outer s H E).env (cxOf (L2.CX P w) P w K mg base N qual (defScope st) f cdv A outer s H E).xe →
      JSs (cxOf (L2.CX P w) P w K mg base N qual (defScope st) f cdv A outer s H E) (fun cls d _ H => E cls d H) ca (defBody st) body) :
    Cal P w K mg base ca (k + 1) f fd ps (runFn n body) := by
  subst hn
  refine ⟨L2.FunD.ok F S (fun vs H Q E h => ?_) (fun cdv A outer s H vs Q E hr h => ?_), F.kp⟩
  · obtain ⟨m, st, xs, _, r, hl, _⟩ := h
    rw [← r.length, hl]
  · obtain ⟨m, st, xs, s0, r, hl, h⟩ := h
    obtain ⟨t, p, z⟩ := (hbody cdv A outer s H E hr (takes_of rfl rfl rfl rfl) (passes_of rfl)).ex
    refine ⟨t, p, z _ H m (xs.map some ++ List.replicate (N.length - xs.length) none) st _ s0 (er_start r) ?_⟩
    unfold runFn at h
    cases q : body (xs.map some ++ List.replicate (N.length - xs.length) none) st with
    | nx e1 s1 => rw [q] at h; exact fun m1 σ1 H1 p1 k1 s2 _ => h.gc s0 m1 _ H1 p1 k1 s2 .non
    | rt v s1 => rw [q] at h; exact fun m1 w1 H1 p1 k1 s2 r1 => h.gc s0 m1 w1 H1 p1 k1 s2 r1
    | er x e1 s1 => rw [q] at h; exact fun m1 d σ1 H1 p1 k1 s2 _ r1 => h.gcx s0 m1 d H1 p1 k1 s2 r1
    | bk e1 s1 => rw [q] at h; exact h.elim
    | ct e1 s1 => rw [q] at h; exact h.elim
    | no => rw [q] at h; exact h.elim
theorem bnd_D {fd : FuncData} {ps : List Str} {ds : List PV} {dvs : List V} (h : ∃ us, Vals dvs us ∧ Binds K fd ps us) (r : ∀ H m, VRs K ca H m ds dvs) : Bnd K ca fd ps ds := by
  obtain ⟨us, h1, h2⟩ := h
  exact ⟨us, dvs, h2, h1, r⟩
theorem funD_mk {x qual : Str} {st : Stmt} {f T : Addr} {oc : Value} {od an : Option Addr} {osl : Array (Option Value)} {kV doc pm cdv ct : Value} {dvs : List V} {o : Obj} {its : List Value} {n : Nat}
    (l : K.lookup f = some ⟨oc, od, .func (PySem.W.fnOf x qual (defArgs st) (defBody st) (defScope st) (.ref T) kV doc pm an cdv ct), osl⟩) (c : PySem.W.codeIn K cdv qual = true) (k : PySem.W.keepIn K (.ref f) = true) (hd : dvs ≠ []) (lT : K.lookup T = some o) (oT : o.data = .seq its.toArray n) (r : Vals dvs its) :
    L2.FunD K x qual (defArgs st) (defBody st) (defScope st) dvs [] f (PySem.W.fnOf x qual (defArgs st) (defBody st) (defScope st) (.ref T) kV doc pm an cdv ct) := ⟨⟨oc, od, _, kV, doc, pm, an, cdv, ct, osl, rfl, l, c, .inr ⟨hd, T, o, its, n, rfl, lT, oT, r⟩, .inl rfl⟩, k⟩
end
end
end FL
end
section
set_option linter.all false
set_option maxRecDepth 100000
namespace FL
open PySem PySem.Spec PyProof.Rows L2
noncomputable section
/-! ## dicts: their keys, their look-ups -/
def keyK : PV → Option Key
  | .int i => some (.inl i)
  | .str x => some (.inr x)
  | _ => none
mutual
def keyN : PV → Option NestedKey
  | .non => some .none
  | .int i => some (.num i)
  | .str x => some (.text x)
  | .tup xs => match keyNs xs with
    | some ks => some (.tup ks)
    | none => none
  | _ => none
def keyNs : List PV → Option (List NestedKey)
  | [] => some []
  | x :: xs => match keyN x, keyNs xs with
    | some k, some ks => some (k :: ks)
    | _, _ => none
end
/-- a tuple as a key -/
def keyT (x : PV) : Option NestedKey := match x with
  | .tup xs => match keyNs xs with
    | some ks => if (NestedKey.tup ks).depth ≤ 8 then some (.tup ks) else none
    | none => none
  | _ => none
section
variable {κ : Type} [DecidableEq κ]
def valP (kvs : List (κ × PV)) (k : κ) : Option PV := (kvs.find? fun kv => decide (kv.1 = k)).map (·.2)
def putD (kvs : List (κ × PV)) (k : κ) (v : PV) : List (κ × PV) :=
  if (kvs.any fun kv => decide (kv.1 = k)) = true then kvs.map (fun kv => if kv.1 = k then (kv.1, v) else kv) else kvs ++ [(k, v)]
theorem length_putD (kvs : List (κ × PV)) (k : κ) (v : PV) : (putD kvs k v).length ≤ kvs.length + 1 := by
  unfold putD
  split
  · rw [List.length_map]; omega
  · rw [List.length_append, List.length_cons, List.length_nil]; omega
variable {K : PySem.W.Frag} {ca : Ca} {m : List Addr} {H : Hp}
theorem KR.val {kvs : List (κ × PV)} {ws : List (κ × V)} (r : KR K ca H m kvs ws) (k : κ) : (valP kvs k = none → valV ws k = none) ∧ ∀ v, valP kvs k = some v → ∃ w, valV ws k = some w ∧ VR K ca H m v w := by
  unfold KR at r
  induction r with
  | nil => exact ⟨fun _ => rfl, fun v e => by cases e⟩
  | @cons p q ps qs h t ih =>
    obtain ⟨h1, h2⟩ := h
    by_cases e : p.1 = k
    · have e1 : valP (p :: ps) k = some p.2 := by simp [valP, List.find?_cons, e]
      rw [e1, valV_pos (h1.symm.trans e)]
      exact ⟨fun z => (by cases z), fun v z => ⟨_, rfl, by cases z; exact h2⟩⟩
    · have e1 : valP (p :: ps) k = valP ps k := by simp [valP, List.find?_cons, e]
      rw [e1, valV_neg (fun z => e (h1.trans z))]
      exact ih
theorem KR.any {kvs : List (κ × PV)} {ws : List (κ × V)} (r : KR K ca H m kvs ws) (k : κ) : (kvs.any fun kv => decide (kv.1 = k)) = ws.any fun kv => decide (kv.1 = k) := by
  unfold KR at r
  induction r with
  | nil => rfl
  | cons h t ih => rw [List.any_cons, List.any_cons, ih, h.1]
theorem KR.isSome {kvs : List (κ × PV)} {ws : List (κ × V)} (r : KR K ca H m kvs ws) (k : κ) : (valP kvs k).isSome = (valV ws k).isSome := by
  obtain ⟨h1, h2⟩ := r.val k
  cases q : valP kvs k with
  | none => rw [h1 q] <;> rfl
  | some v =>
    obtain ⟨w, e, _⟩ := h2 v q
    rw [e] <;> rfl
theorem KR.repl {kvs : List (κ × PV)} {ws : List (κ × V)} (r : KR K ca H m kvs ws) (k : κ) {v : PV} {w : V} (rv : VR K ca H m v w) :
    KR K ca H m (kvs.map fun kv => if kv.1 = k then (kv.1, v) else kv) (ws.map fun kv => if kv.1 = k then (kv.1, w) else kv) := by
  unfold KR at r ⊢
  induction r with
  | nil => exact .nil
  | @cons p q ps qs h t ih =>
    rw [List.map_cons, List.map_cons]
    refine .cons ?_ ih
    obtain ⟨h1, h2⟩ := h
    by_cases e : p.1 = k
    · rw [if_pos e, if_pos (h1.symm.trans e)]; exact ⟨h1, rv⟩
    · rw [if_neg e, if_neg (fun z => e (h1.trans z))]; exact ⟨h1, h2⟩
theorem KR.putD {kvs : List (κ × PV)} {ws : List (κ × V)} (r : KR K ca H m kvs ws) (k : κ) {v : PV} {w : V} (rv : VR K ca H m v w) : KR K ca H m (FL.putD kvs k v) (putK ws k w) := by
  unfold FL.putD putK
  rw [r.any k]
  split
  · exact r.repl k rv
  · exact Paired.snoc r ⟨rfl, rv⟩
theorem KR.len' {kvs : List (κ × PV)} {ws : List (κ × V)} (r : KR K ca H m kvs ws) : kvs.length = ws.length := Paired.length r
end
/-! ### the dicts of nested keys -/
abbrev piX (xs : List (NestedKey × Addr × V)) : List (NestedKey × V) := xs.map fun x => (x.1, x.2.2)
def storedX (xs : List (NestedKey × Addr × V)) (k : NestedKey) (b : Addr) (v : V) : List (NestedKey × Addr × V) :=
  if (xs.any fun x => decide (x.1 = k)) = true then xs.map (fun x => if x.1 = k then (x.1, x.2.1, v) else x) else xs ++ [(k, b, v)]
abbrev RXY : (NestedKey × Addr × V) → (NestedKey × Addr × Value) → Prop := fun p q => p.1 = q.1 ∧ p.2.1 = q.2.1 ∧ RelV p.2.2 q.2.2
theorem length_storedX (xs : List (NestedKey × Addr × V)) (k : NestedKey) (b : Addr) (v : V) : (storedX xs k b v).length ≤ xs.length + 1 := by
  unfold storedX
  split
  · rw [List.length_map]; omega
  · rw [List.length_append, List.length_cons, List.length_nil]; omega
theorem at_any {xs : List (NestedKey × Addr × V)} {ys : List (NestedKey × Addr × Value)} (r : Paired RXY xs ys) (k : NestedKey) : (xs.any fun x => decide (x.1 = k)) = (atKey ys k).isSome := by
  induction r with
  | nil => rfl
  | @cons p q ps qs h t ih =>
    rw [List.any_cons, ih]
    by_cases e : p.1 = k
    · have e1 : atKey (q :: qs) k = some q.2 := by simp [atKey, List.find?_cons, h.1.symm.trans e]
      rw [e1, decide_eq_true e]
      rfl
    · have e1 : atKey (q :: qs) k = atKey qs k := by simp [atKey, List.find?_cons, show ¬ q.1 = k from fun z => e (h.1.trans z)]
      rw [e1, decide_eq_false e]
      rfl
theorem stored_rel {xs : List (NestedKey × Addr × V)} {ys : List (NestedKey × Addr × Value)} (r : Paired RXY xs ys) (k : NestedKey) (b : Addr) {v : V} {u : Value} (rv : RelV v u) : Paired RXY (storedX xs k b v) (storedH ys k b u) := by
  unfold storedX storedH
  rw [at_any r k]
  split
  · rename_i hyp
    clear hyp
    induction r with
    | nil => exact .nil
    | @cons p q ps qs h t ih =>
      rw [List.map_cons, List.map_cons]
      refine .cons ?_ ih
      unfold putAt
      by_cases e : p.1 = k
      · rw [if_pos e, if_pos (h.1.symm.trans e)]; exact ⟨h.1, h.2.1, rv⟩
      · rw [if_neg e, if_neg (fun z => e (h.1.trans z))]; exact h
  · exact Paired.snoc r ⟨rfl, rfl, rv⟩
theorem pairs_kv {xs : List (NestedKey × Addr × V)} {ys : List (NestedKey × Addr × Value)} (r : Paired RXY xs ys) : L2.KV (piX xs) (pairsH ys) := by
  unfold L2.KV pairsH piX
  induction r with
  | nil => exact .nil
  | cons h t ih => exact .cons ⟨h.1, h.2.2⟩ ih
section
variable {K : PySem.W.Frag} {ca : Ca} {m : List Addr} {H : Hp}
theorem DR.kr {kvs : List (NestedKey × PV)} {xs : List (NestedKey × Addr × V)} (r : DR K ca H m kvs xs) : KR K ca H m kvs (piX xs) := by
  unfold DR at r
  unfold KR piX
  induction r with
  | nil => exact .nil
  | cons h t ih => exact .cons ⟨h.1, h.2.2⟩ ih
theorem DR.keys {kvs : List (NestedKey × PV)} {xs : List (NestedKey × Addr × V)} (r : DR K ca H m kvs xs) : ∀ x ∈ xs, NkV K H x.1 (.ref x.2.1) ∧ x.1.depth ≤ 8 := by
  unfold DR at r
  induction r with
  | nil => intro x hx; exact nomatch hx
  | cons h t ih =>
    intro x hx
    rcases List.mem_cons.mp hx with e | hx
    · subst e
      rw [← h.1]
      exact h.2.1
    · exact ih x hx
theorem DR.len {kvs : List (NestedKey × PV)} {xs : List (NestedKey × Addr × V)} (r : DR K ca H m kvs xs) : kvs.length = xs.length := Paired.length r
theorem DR.put {kvs : List (NestedKey × PV)} {xs : List (NestedKey × Addr × V)} (r : DR K ca H m kvs xs) {k : NestedKey} {b : Addr} (hk : NkV K H k (.ref b) ∧ k.depth ≤ 8) {v : PV} {w : V} (rv : VR K ca H m v w) : DR K ca H m (putD kvs k v) (storedX xs k b w) := by
  have ea : (kvs.any fun kv => decide (kv.1 = k)) = xs.any fun x => decide (x.1 = k) := by
    clear rv
    unfold DR at r
    induction r with
    | nil => rfl
    | cons h t ih => rw [List.any_cons, List.any_cons, ih, h.1]
  unfold putD storedX
  rw [ea]
  split
  · clear ea
    unfold DR at r ⊢
    induction r with
    | nil => exact .nil
    | @cons p q ps qs h t ih =>
      rename_i hh
      rw [List.map_cons, List.map_cons]
      refine .cons ?_ (by
        clear hh
        clear ih
        clear h
        induction t with
        | nil => exact .nil
        | @cons p q ps qs h t ih =>
          rw [List.map_cons, List.map_cons]
          refine .cons ?_ ih
          by_cases e : p.1 = k
          · rw [if_pos e, if_pos (h.1.symm.trans e)]; exact ⟨h.1, h.2.1, rv⟩
          · rw [if_neg e, if_neg (fun z => e (h.1.trans z))]; exact h)
      by_cases e : p.1 = k
      · rw [if_pos e, if_pos (h.1.symm.trans e)]; exact ⟨h.1, h.2.1, rv⟩
      · rw [if_neg e, if_neg (fun z => e (h.1.trans z))]; exact h
  · exact Paired.snoc r ⟨rfl, hk, rv⟩
mutual
theorem keyN_ok : ∀ {x : PV} {v : V} {k : NestedKey}, VR K ca H m x v → keyN x = some k → NkV K H k v
  | _, _, _, .non, e => by simp only [keyN, Option.some.injEq] at e; subst e; exact .non
  | _, _, _, .int i, e => by simp only [keyN, Option.some.injEq] at e; subst e; exact .int i
  | _, _, _, .str x, e => by simp only [keyN, Option.some.injEq] at e; subst e; exact .str x
  | _, _, k, .tup h r, e => by
    simp only [keyN] at e
    split at e
    · rename_i ks hk
      cases e
      obtain ⟨h1, h2⟩ := keyNs_ok r hk
      exact .tup h h1 h2
    · cases e
  | _, _, _, .bl _, e => by simp only [keyN, reduceCtorEq] at e
  | _, _, _, .ty _, e => by simp only [keyN, reduceCtorEq] at e
  | _, _, _, .cls _, e => by simp only [keyN, reduceCtorEq] at e
  | _, _, _, .exc _, e => by simp only [keyN, reduceCtorEq] at e
  | _, _, _, .ref _, e => by simp only [keyN, reduceCtorEq] at e
  | _, _, _, .frz _ _, e => by simp only [keyN, reduceCtorEq] at e
theorem keyNs_ok : ∀ {xs : List PV} {vs : List V} {ks : List NestedKey}, VRs K ca H m xs vs → keyNs xs = some ks → ks.length = vs.length ∧ ∀ (i : Nat) k v, ks[i]? = some k → vs[i]? = some v → NkV K H k v
  | _, _, _, .nil, e => by simp only [keyNs, Option.some.injEq] at e; subst e; exact ⟨rfl, fun i k v h => by simp at h⟩
  | _, _, _, .cons h r, e => by
    simp only [keyNs] at e
    split at e
    · rename_i k ks h1 h2
      cases e
      obtain ⟨g1, g2⟩ := keyNs_ok r h2
      have g0 := keyN_ok h h1
      refine ⟨by rw [List.length_cons, List.length_cons, g1], fun i k' v' a b => ?_⟩
      cases i with
      | zero => simp at a b; subst a b; exact g0
      | succ i => exact g2 i k' v' (by simpa using a) (by simpa using b)
    · cases e
end
theorem keyT_ok {x : PV} {v : V} {k : NestedKey} (r : VR K ca H m x v) (e : keyT x = some k) : ∃ b, v = .ref b ∧ NkV K H k (.ref b) ∧ k.depth ≤ 8 := by
  unfold keyT at e
  split at e
  · rename_i xs
    split at e
    · rename_i ks hk
      split at e
      · rename_i hd
        cases e
        have q := keyN_ok r (by simp only [keyN]; rw [hk])
        cases r
        exact ⟨_, rfl, q, hd⟩
      · cases e
    · cases e
  · cases e
theorem keyK_ok {x : PV} {v : V} {k : Key} (r : VR K ca H m x v) (e : keyK x = some k) : v = kV k := by
  cases r with
  | int i => simp only [keyK, Option.some.injEq] at e; subst e; rfl
  | str i => simp only [keyK, Option.some.injEq] at e; subst e; rfl
  | _ => cases e
end
/-! ### in the state -/
theorem nall {h : Heap} : ∀ {ks : List NestedKey} {us : List Value}, ks.length = us.length → (∀ (i : Nat) k u, ks[i]? = some k → us[i]? = some u → NestedIs h k u) → NestedAll h ks us
  | [], [], _, _ => .nil
  | [], _ :: _, e, _ => by cases e
  | _ :: _, [], e, _ => by cases e
  | k :: ks, u :: us, e, h => .cons (h 0 k u rfl rfl) (nall (by simpa using e) fun i k u a b => h (i + 1) k u (by simpa using a) (by simpa using b))
section
variable {X : Cx} {pins : List (Addr × Obj)} {σ : L2.St} {H : Hp} {s : Shared} {a b : Addr} {A : Around} {E : Value → Shared → Prop} {w : World} {xs : List (NestedKey × Addr × V)} {k : NestedKey}
theorem nk_is (I : Inv X pins σ H s) {v : V} (n : NkV X.K H k v) : ∀ {u : Value}, RelV v u → NestedIs s.heap k u := by
  induction n with
  | non => intro u r; cases (show u = Value.none from r); exact .none
  | int i => intro u r; obtain ⟨t, rfl⟩ := (show ∃ t, u = Value.int i t from r); exact .int i t
  | str x => intro u r; obtain ⟨t, rfl⟩ := (show ∃ t, u = Value.str x t from r); exact .text x t
  | @tup ks a vs h hn r ih =>
    intro u ru
    cases (show u = Value.ref a from ru)
    obtain ⟨its, rv, ⟨o, h1, h2, n, h3⟩, hz⟩ := I.tuple h
    refine .tup h1 h2 h3 ?_
    rw [List.toList_toArray]
    refine nall (by rw [hn, rv.length]) fun i k u e1 e2 => ?_
    have hi : i < vs.length := by rw [← hn]; exact (List.getElem?_eq_some_iff.mp e1).1
    obtain ⟨u', q1, q2⟩ := rv.get (List.getElem?_eq_getElem hi)
    rw [e2] at q1
    cases q1
    exact ih i k _ e1 (List.getElem?_eq_getElem hi) q2
theorem nk_at (I : Inv X pins σ H s) (n : NkV X.K H k (.ref b) ∧ k.depth ≤ 8) : (nestedKind X.prog X.w).is s.heap k b := ⟨nk_is I n.1 rfl, n.2⟩
theorem dn_at (I : Inv X pins σ H s) (hw : w = X.w) (e : H a = some (.ext (DnOk w a xs))) (hk : ∀ x ∈ xs, NkV X.K H x.1 (.ref x.2.1) ∧ x.1.depth ≤ 8) :
    xs.length ≤ sizeLine ∧ (a == sysModules) = false ∧ ∃ ys, Paired RXY xs ys ∧ s.heap.DictOfH (nestedKind X.prog X.w) a ys := by
  subst hw
  obtain ⟨⟨h1, h2, ys, r, o, es, ep, e1, e2, e3, e4, e5⟩, _, _⟩ := (show ObjOk X.prog X.w H s.heap a (.ext (DnOk X.w a xs)) from I.hok a _ e)
  refine ⟨h1, h2, ys, r, o, es, ep, e1, e2, e3, e4, fun y hy => ?_, e5⟩
  have all : ∀ {l : List (NestedKey × Addr × V)} {l' : List (NestedKey × Addr × Value)}, Paired RXY l l' → (∀ x ∈ l, NkV X.K H x.1 (.ref x.2.1) ∧ x.1.depth ≤ 8) → ∀ y ∈ l', NkV X.K H y.1 (.ref y.2.1) ∧ y.1.depth ≤ 8 := by
    intro l l' q
    induction q with
    | nil => intro _ y hy; exact nomatch hy
    | @cons p q ps qs h t ih =>
      intro hl y hy
      rcases List.mem_cons.mp hy with z | hy
      · subst z
        have := hl p List.mem_cons_self
        rw [h.1, h.2.1] at this
        exact this
      · exact ih (fun x hx => hl x (List.mem_cons_of_mem _ hx)) y hy
  exact nk_at I (all r hk y hy)
theorem dn_ok {h : Heap} {H' : Hp} {ys : List (NestedKey × Addr × Value)} (hz : xs.length ≤ sizeLine) (hd : (a == sysModules) = false) (r : Paired RXY xs ys) (dd : h.DictOfH (nestedKind X.prog X.w) a ys) : ObjOk X.prog X.w H' h a (.ext (DnOk X.w a xs)) := by
  obtain ⟨o, es, ep, e1, e2, e3, e4, _, e5⟩ := dd
  refine ⟨⟨hz, hd, ys, r, o, es, ep, e1, e2, e3, e4, e5⟩, ⟨o, e1⟩, fun h1 h2 p q => ?_⟩
  obtain ⟨g1, g2, ys', r', o', es', ep', f1, f2⟩ := p
  exact ⟨g1, g2, ys', r', o', es', ep', q _ f1, f2⟩
/-- what stands at a key of a dict, whatever its kind -/
def DAt (X : Cx) (H : Hp) (a : Addr) (y : V) (o : Option V) : Prop :=
  (∃ kvs k, H a = some (.dK kvs) ∧ y = kV k ∧ o = valV kvs k) ∨
    ∃ xs k b, H a = some (.ext (DnOk X.w a xs)) ∧ (∀ x ∈ xs, NkV X.K H x.1 (.ref x.2.1) ∧ x.1.depth ≤ 8) ∧ y = .ref b ∧ (NkV X.K H k (.ref b) ∧ k.depth ≤ 8) ∧ o = valV (piX xs) k
variable {y : V} {o : Option V} {u : Value}
theorem da_in {Q : Value → Shared → Prop} (hu : A.units + 65 < cLine) (I : Inv X pins σ H s) (g : DAt X H a y o) (ry : RelV y u) (h : ∀ s', Inv X pins σ H s' → Q (.bool o.isSome) s') : wpAny (model X.prog X.w) A (compareOp .In u (.ref a)) Q E s := by
  rcases g with ⟨kvs, k, e, ey, l⟩ | ⟨xs, k, b, e, hk, ey, hb, l⟩
  · exact d_in (by omega) I (.inl ⟨kvs, k, .inl e, ey, l⟩) ry h
  · subst ey
    cases (show u = Value.ref b from ry)
    obtain ⟨z, hd, ys, rel, dd⟩ := dn_at I rfl e hk
    refine in_keyed (knd := nestedKind X.prog X.w) (show A.units + 1 + 8 < cLine by omega) (nk_at I hb) hd ⟨ys, dd, rfl⟩ ?_
    rw [← ((pairs_kv rel).val k).isSome_eq, ← l]
    exact h _ (I.tok _)
theorem da_notin {Q : Value → Shared → Prop} (hu : A.units + 65 < cLine) (I : Inv X pins σ H s) (g : DAt X H a y o) (ry : RelV y u) (h : ∀ s', Inv X pins σ H s' → Q (.bool (!o.isSome)) s') : wpAny (model X.prog X.w) A (compareOp .NotIn u (.ref a)) Q E s := by
  rcases g with ⟨kvs, k, e, ey, l⟩ | ⟨xs, k, b, e, hk, ey, hb, l⟩
  · exact d_notIn (by omega) I (.inl ⟨kvs, k, .inl e, ey, l⟩) ry h
  · subst ey
    cases (show u = Value.ref b from ry)
    obtain ⟨z, hd, ys, rel, dd⟩ := dn_at I rfl e hk
    refine notIn_keyed (knd := nestedKind X.prog X.w) (show A.units + 1 + 8 < cLine by omega) (nk_at I hb) hd ⟨ys, dd, rfl⟩ ?_
    rw [← ((pairs_kv rel).val k).isSome_eq, ← l]
    exact h _ (I.tok _)
theorem da_get {v : V} {Q : Value → Shared → Prop} (hu : A.units + 65 < cLine) (I : Inv X pins σ H s) (g : DAt X H a y (some v)) (ry : RelV y u) (h : ∀ w' s', Inv X pins σ H s' → RelV v w' → Q w' s') : wpAny (model X.prog X.w) A (getItem (.ref a) u) Q E s := by
  rcases g with ⟨kvs, k, e, ey, l⟩ | ⟨xs, k, b, e, hk, ey, hb, l⟩
  · exact d_getItem (by omega) I (.inl ⟨kvs, k, .inl e, ey, l⟩) ry h
  · subst ey
    cases (show u = Value.ref b from ry)
    obtain ⟨z, hd, ys, rel, dd⟩ := dn_at I rfl e hk
    obtain ⟨w', hw, rw'⟩ := RelO.some_of (v := v) (o := valueAt (pairsH ys) k) (by rw [l]; exact (pairs_kv rel).val k)
    exact getItem_keyed (knd := nestedKind X.prog X.w) (show A.units + 1 + 8 < cLine by omega) (nk_at I hb) ⟨ys, dd, rfl⟩ hw (h w' _ (I.tok _) rw')
theorem da_get1 {Q : Value → Shared → Prop} (hu : A.units + 65 < cLine) (I : Inv X pins σ H s) (g : DAt X H a y o) (ry : RelV y u) (h : ∀ w' s', Inv X pins σ H s' → RelV (o.getD .non) w' → Q w' s') : wpAny (model X.prog X.w) A (call (.builtin "dict.get") [.ref a, u]) Q E s := by
  rcases g with ⟨kvs, k, e, ey, l⟩ | ⟨xs, k, b, e, hk, ey, hb, l⟩
  · exact d_get1 (by omega) I (.inl ⟨kvs, k, .inl e, ey, l⟩) ry h
  · subst ey
    cases (show u = Value.ref b from ry)
    obtain ⟨z, hd, ys, rel, dd⟩ := dn_at I rfl e hk
    refine get_keyed (knd := nestedKind X.prog X.w) (show A.units + 1 + 8 < cLine by omega) (nk_at I hb) hd ⟨ys, dd, rfl⟩ (h _ _ (I.tok _) ?_)
    rw [l]
    exact ((pairs_kv rel).val k).getD rfl
theorem da_get2 {d : V} {r : Value} {Q : Value → Shared → Prop} (hu : A.units + 65 < cLine) (I : Inv X pins σ H s) (g : DAt X H a y o) (ry : RelV y u) (rd : RelV d r) (h : ∀ w' s', Inv X pins σ H s' → RelV (o.getD d) w' → Q w' s') : wpAny (model X.prog X.w) A (call (.builtin "dict.get") [.ref a, u, r]) Q E s := by
  rcases g with ⟨kvs, k, e, ey, l⟩ | ⟨xs, k, b, e, hk, ey, hb, l⟩
  · exact d_get2 (by omega) I (.inl ⟨kvs, k, .inl e, ey, l⟩) ry rd h
  · subst ey
    cases (show u = Value.ref b from ry)
    obtain ⟨z, hd, ys, rel, dd⟩ := dn_at I rfl e hk
    refine getOr_keyed (knd := nestedKind X.prog X.w) (show A.units + 1 + 8 < cLine by omega) (nk_at I hb) hd ⟨ys, dd, rfl⟩ (h _ _ (I.tok _) ?_)
    rw [l]
    exact ((pairs_kv rel).val k).getD rd
/-- what a store makes of the heap -/
def DTo (X : Cx) (H : Hp) (a : Addr) (y v : V) (H' : Hp) : Prop :=
  (∃ kvs k, H a = some (.dK kvs) ∧ y = kV k ∧ kvs.length < sizeLine ∧ H' = upd H a (.dK (putK kvs k v))) ∨
    ∃ xs k b, H a = some (.ext (DnOk X.w a xs)) ∧ (∀ x ∈ xs, NkV X.K H x.1 (.ref x.2.1) ∧ x.1.depth ≤ 8) ∧ y = .ref b ∧ (NkV X.K H k (.ref b) ∧ k.depth ≤ 8) ∧ xs.length < sizeLine ∧ H' = upd H a (.ext (DnOk X.w a (storedX xs k b v)))
theorem da_set {v : V} {r : Value} {H' : Hp} {Q : Unit → Shared → Prop} (hu : A.units + 65 < cLine) (I : Inv X pins σ H s) (g : DTo X H a y v H') (ry : RelV y u) (rv : RelV v r) (h : ∀ s', Inv X pins σ H' s' → Q () s') : wpAny (model X.prog X.w) A (setItem (.ref a) u r) Q E s := by
  rcases g with ⟨kvs, k, e, ey, l, eH⟩ | ⟨xs, k, b, e, hk, ey, hb, l, eH⟩
  · exact d_setItem (by omega) I (.inl ⟨kvs, k, e, ey, l, eH⟩) ry rv h
  · subst ey eH
    cases (show u = Value.ref b from ry)
    obtain ⟨z, hd, ys, rel, dd⟩ := dn_at I rfl e hk
    have hz : ys.length ≤ sizeLine := by rw [← Paired.length rel]; exact z
    have hl : (storedX xs k b v).length ≤ sizeLine := by have := length_storedX xs k b v; omega
    refine wpAny_setItem_heap (knd := nestedKind X.prog X.w) (hsz := hz) (show A.units + 1 + 8 < cLine by omega) (nk_at I hb) dd fun h' dd' hs => h _ ?_
    have he : ∃ q, h'.get? a = some q := let ⟨q, _, _, hq, _⟩ := dd'; ⟨q, hq⟩
    exact d_write I (by rw [e]; exact True.intro) hs he (dn_ok hl hd (stored_rel rel k b rv) dd')
end
/-! ### rules -/
def dinB (x y : PV) (st : Store) : Option Bool := match y with
  | .ref n => match st[n]? with
    | some (.dK kvs) => (keyK x).map fun k => (valP kvs k).isSome
    | some (.dN kvs) => (keyT x).map fun k => (valP kvs k).isSome
    | _ => none
  | _ => none
def dinV (x y : PV) (st : Store) : O PV := (dinB x y st).map fun b => (.bl b, st)
def dninV (x y : PV) (st : Store) : O PV := (dinB x y st).map fun b => (.bl (!b), st)
/-- what stands at a key, if it can be asked -/
def dlook (x : PV) (y : PV) (st : Store) : Option (Option PV) := match x with
  | .ref n => match st[n]? with
    | some (.dK kvs) => (keyK y).map fun k => valP kvs k
    | some (.dN kvs) => (keyT y).map fun k => valP kvs k
    | _ => none
  | _ => none
def dgetV (x y : PV) (st : Store) : O PV := match dlook x y st with
  | some (some v) => some (v, st)
  | _ => none
def dput (o i v : PV) (st : Store) : Option Store := match o with
  | .ref n => match st[n]? with
    | some (.dK kvs) => match keyK i with
      | some k => if kvs.length < sizeLine then some (st.set n (.dK (putD kvs k v))) else none
      | none => none
    | some (.dN kvs) => match keyT i with
      | some k => if kvs.length < sizeLine then some (st.set n (.dN (putD kvs k v))) else none
      | none => none
    | _ => none
  | _ => none
section
variable {X : Cx} {W : WX} {ca : Ca}
theorem dlook_ok {H : Hp} {m : List Addr} {st : Store} {x y : PV} {x' y' : V} {o : Option PV} (hw : ca.w = X.w) (s : SR X.K ca H m st) (rx : VR X.K ca H m x x') (ry : VR X.K ca H m y y') (e : dlook x y st = some o) :
    ∃ a o', x' = .ref a ∧ DAt X H a y' o' ∧ (o = none → o' = none) ∧ (∀ v, o = some v → ∃ w, o' = some w ∧ VR X.K ca H m v w) ∧ o.isSome = o'.isSome := by
  unfold dlook at e
  split at e
  · cases rx with
    | ref hn =>
      split at e
      · rename_i kvs hx
        obtain ⟨k, hk, rfl⟩ := Option.map_eq_some_iff.mp e
        obtain ⟨ws, e1, r1⟩ := s.at hx hn
        exact ⟨_, valV ws k, rfl, .inl ⟨ws, k, e1, keyK_ok ry hk, rfl⟩, (r1.val k).1, (r1.val k).2, r1.isSome k⟩
      · rename_i kvs hx
        obtain ⟨k, hk, rfl⟩ := Option.map_eq_some_iff.mp e
        obtain ⟨xs, e1, r1⟩ := s.at hx hn
        rw [hw] at e1
        obtain ⟨b, hb, hn2⟩ := keyT_ok ry hk
        exact ⟨_, valV (piX xs) k, rfl, .inr ⟨xs, k, b, e1, r1.keys, hb, hn2, rfl⟩, (r1.kr.val k).1, (r1.kr.val k).2, r1.kr.isSome k⟩
      · cases e
  · cases e
theorem dinB_look {x y : PV} {st : Store} {b : Bool} (e : dinB x y st = some b) : ∃ o, dlook y x st = some o ∧ b = o.isSome := by
  unfold dinB at e
  unfold dlook
  split at e
  · split at e
    · rename_i h
      obtain ⟨k, hk, rfl⟩ := Option.map_eq_some_iff.mp e
      simp only [h, hk, Option.map_some]
      exact ⟨_, rfl, rfl⟩
    · rename_i h
      obtain ⟨k, hk, rfl⟩ := Option.map_eq_some_iff.mp e
      simp only [h, hk, Option.map_some]
      exact ⟨_, rfl, rfl⟩
    · cases e
  · cases e
theorem of_din (hu : X.A.units + 65 < cLine) (hw : ca.w = X.w := by rfl) : OpF X ca (compareOp .In) dinV := by
  refine ⟨fun x y H Q => ∃ a o, y = .ref a ∧ DAt X H a x o ∧ Q (.bl o.isSome) H, fun pins s σ H x y v u Q I rx ry ⟨a, o, ey, g, q⟩ => ?_, fun H m st x y x' y' Q s rx ry p => ?_⟩
  · subst ey
    cases (show u = Value.ref a from ry)
    exact da_in hu I g rx fun s' I' => ⟨.bl o.isSome, H, I', rfl, q⟩
  · unfold dinV at p
    cases e : dinB x y st with
    | none => rw [e] at p; exact p.elim
    | some b =>
      rw [e] at p
      obtain ⟨o, h1, rfl⟩ := dinB_look e
      obtain ⟨a, o', h2, h3, _, _, h4⟩ := dlook_ok hw s ry rx h1
      exact ⟨a, o', h2, h3, by rw [← h4]; exact p.val s (.bl _)⟩
theorem of_dnin (hu : X.A.units + 65 < cLine) (hw : ca.w = X.w := by rfl) : OpF X ca (compareOp .NotIn) dninV := by
  refine ⟨fun x y H Q => ∃ a o, y = .ref a ∧ DAt X H a x o ∧ Q (.bl (!o.isSome)) H, fun pins s σ H x y v u Q I rx ry ⟨a, o, ey, g, q⟩ => ?_, fun H m st x y x' y' Q s rx ry p => ?_⟩
  · subst ey
    cases (show u = Value.ref a from ry)
    exact da_notin hu I g rx fun s' I' => ⟨.bl (!o.isSome), H, I', rfl, q⟩
  · unfold dninV at p
    cases e : dinB x y st with
    | none => rw [e] at p; exact p.elim
    | some b =>
      rw [e] at p
      obtain ⟨o, h1, rfl⟩ := dinB_look e
      obtain ⟨a, o', h2, h3, _, _, h4⟩ := dlook_ok hw s ry rx h1
      exact ⟨a, o', h2, h3, by rw [← h4]; exact p.val s (.bl _)⟩
theorem dict_ty {X : Cx} {pins : List (Addr × Obj)} {σ : L2.St} {H : Hp} {s : Shared} {a : Addr} {y : V} {o : Option V} (I : Inv X pins σ H s) (g : DAt X H a y o) : s.TypeIs (.ref a) "dict" ∧ ∃ ob, s.heap.get? a = some ob ∧ ob.dict = none := by
  rcases g with ⟨kvs, k, e, _, _⟩ | ⟨xs, k, b, e, hk, _⟩
  · obtain ⟨_, _, vs, _, ob, _, _, h1, h2, _⟩ := dk_of I.hok e
    exact ⟨⟨ob, h1, h2.1⟩, ob, h1, h2.2.1⟩
  · obtain ⟨_, _, ys, _, ob, _, _, h1, h2, _⟩ := dn_at I rfl e hk
    exact ⟨⟨ob, h1, h2.1⟩, ob, h1, h2.2.1⟩
theorem ix_dict (hu : X.A.units + 65 < cLine) (hw : ca.w = X.w := by rfl) : IxF X ca dgetV := by
  refine ⟨fun x y H Q => ∃ a v, x = .ref a ∧ DAt X H a y (some v) ∧ Q v H, fun value slice pins s σ H x y v u Q I rx ry ⟨a, w, ex, g, q⟩ hs => ?_, fun H m st x y x' y' Q s rx ry p => ?_⟩
  · subst ex
    cases (show v = Value.ref a from rx)
    have hT := (dict_ty I g).1
    unfold subscriptTail
    refine wpAny_bind ?_
    rw [getitemInPython_of_ne hT.not_modules]
    refine wpAny_bind (wpAny_specialOf hT PySem.F.slot_dict_getitem.lookup ?_)
    have fin : wpAny (model X.prog X.w) X.A (subscripted slice false (.ref a) u) (fun r s₃ => wpAny (model X.prog X.w) X.A (letTemporaryGo value (.ref a) r >>= fun _ => pure r) (EP X pins σ Q) X.xe s₃) X.xe s := by
      rw [hs]
      exact wpAny_operating (da_get hu I g ry fun w' s3 I3 rw' => wpAny_bind (wpAny_letTemporaryGo (wpAny_pure ⟨w, H, I3, rw', q⟩)))
    first
      | exact wpAny_pure (wpAny_bind fin)
      | exact wpAny_bind (wpAny_pure (wpAny_bind fin))
      | exact wpAny_bind fin
  · unfold dgetV at p
    split at p
    · rename_i v hv
      obtain ⟨a, o', h2, h3, _, h4, _⟩ := dlook_ok hw s rx ry hv
      obtain ⟨w, rfl, rw'⟩ := h4 v rfl
      exact ⟨a, w, h2, h3, p.val s rw'⟩
    · exact p.elim
theorem sf_dict (hu : X.A.units + 65 < cLine) (hw : ca.w = X.w := by rfl) : SetF X ca dput := by
  refine ⟨fun o i v H Q => ∃ a H', o = .ref a ∧ DTo X H a i v H' ∧ Q H', fun pins s σ H o i v ov iv u Q I ro ri rv ⟨a, H', eo, g, q⟩ => ?_, fun H m st o i v o' i' v' st' Q s ro ri rv e q => ?_⟩
  · subst eo
    cases (show ov = Value.ref a from ro)
    exact da_set hu I g ri rv fun s' I' => ⟨H', I', q⟩
  · unfold dput at e
    split at e
    · cases ro with
      | ref hn =>
        rename_i adr
        split at e
        · rename_i kvs hx
          obtain ⟨ws, e1, r1⟩ := s.at hx hn
          split at e
          · rename_i k hk
            split at e
            · rename_i hl
              cases e
              have kk := Keep.upd (K := X.K) (o := .dK (putK ws k v')) e1 (fun _ z => nomatch z) (fun _ _ z => nomatch z)
              exact ⟨_, _, rfl, .inl ⟨ws, k, e1, keyK_ok ri hk, by rw [← r1.len']; exact hl, rfl⟩, q _ kk (s.set hn e1 (fun _ z => nomatch z) (fun _ _ z => nomatch z) ⟨_, upd_same, (r1.putD k rv).mono (List.prefix_refl _) kk⟩)⟩
            · cases e
          · cases e
        · rename_i kvs hx
          obtain ⟨xs, e1, r1⟩ := s.at hx hn
          rw [hw] at e1
          split at e
          · rename_i k hk
            obtain ⟨b, hb, hn2⟩ := keyT_ok ri hk
            split at e
            · rename_i hl
              cases e
              have kk := Keep.upd (K := X.K) (o := .ext (DnOk X.w adr (storedX xs k b v'))) e1 (fun _ z => nomatch z) (fun _ _ z => nomatch z)
              exact ⟨_, _, rfl, .inr ⟨xs, k, b, e1, r1.keys, hb, hn2, by rw [← r1.len]; exact hl, rfl⟩, q _ kk (s.set hn e1 (fun _ z => nomatch z) (fun _ _ z => nomatch z) ⟨_, by rw [hw]; exact upd_same, (r1.put hn2 rv).mono (List.prefix_refl _) kk⟩)⟩
            · cases e
          · cases e
        · cases e
    · cases e
/-! ### {} -/
def newDK : FE := fun _ st => .ok (.ref st.length) (st ++ [.dK []])
def newDN : FE := fun _ st => .ok (.ref st.length) (st ++ [.dN []])
theorem je_newDK {pos : Pos} : JE X W ca (.Dict [] [] pos) newDK := ⟨_, pe_dnewK, fun σ H m env st Q s e h p hp => by
  have kk := Keep.new (K := X.K) (o := .dK []) hp
  exact h (m ++ [p]) _ _ (List.prefix_append _ _) kk (s.new hp ⟨[], upd_same, .nil⟩) (.ref (by rw [← s.len, List.getElem?_append_right (Nat.le_refl _), Nat.sub_self]; rfl))⟩
theorem je_newDN {pos : Pos} (hw : ca.w = X.w := by rfl) : JE X W ca (.Dict [] [] pos) newDN := by
  refine ⟨fun σ H Q => ∀ p, H p = none → Q (.ref p) (upd H p (.ext (DnOk X.w p []))), ⟨fun pins s σ H Q I h => ?_⟩, fun σ H m env st Q s e h p hp => ?_⟩
  · refine wpAny_Dict_empty ⟨.ref s.heap.objs.size, _, I.laid (a := s.heap.objs.size) (o := .ext (DnOk X.w s.heap.objs.size [])) (t' := s.toks) (fun _ _ q => Heap.get?_push_of_some _ q) (Nat.le_refl _) ?_, rfl, h _ (I.hok.fresh (Nat.le_refl _))⟩
    exact dn_ok (X := X) (Nat.zero_le _) (beq_eq_false_iff_ne.mpr (Ne.symm (Nat.ne_of_lt I.big))) .nil (Heap.DictOfH.new s.heap)
  · have kk := Keep.new (K := X.K) (o := .ext (DnOk X.w p [])) hp
    exact h (m ++ [p]) _ _ (List.prefix_append _ _) kk (s.new hp ⟨[], by rw [hw]; exact upd_same, .nil⟩) (.ref (by rw [← s.len, List.getElem?_append_right (Nat.le_refl _), Nat.sub_self]; rfl))
end
end
end FL
end
section
set_option linter.all false
set_option maxRecDepth 100000
namespace FL
open PySem PySem.Spec PyProof.Rows L2
noncomputable section
/-! ## exceptions -/
/-- the class c stands under d: all own classes stand under the one head -/
def isEx (c d : String) : Bool := c == d || d == "SameError"
structure XFacts (K : PySem.W.Frag) (ca : Ca) (XN : List String × List String) : Prop where
  ex : ∀ c ∈ XN.1, ExcC K (ca c)
  kit : ∀ c ∈ XN.1, ∀ d ∈ XN.2, PySem.W.kitOne K (.ref (ca c)) (.ref (ca d)) = some (isEx c d)
  ve : ∀ c ∈ XN.1, PySem.W.kitOne K (.ref (ca c)) (.type "ValueError") = some true
  exm : ∀ c ∈ XN.1, ∀ d ∈ XN.2, PySem.W.exmOne K (.ref (ca c)) (.ref (ca d)) = some (isEx c d)
/-- while the exception at a, of class c, is handled -/
def Ca.at (ca : Ca) (a : Addr) (c : String) : Ca := ⟨ca.f, ca.w, some (a, c)⟩
mutual
def noX : PV → Bool
  | .exc _ => false
  | .tup xs => noXs xs
  | .frz xs => noXs xs
  | _ => true
def noXs : List PV → Bool
  | [] => true
  | x :: xs => noX x && noXs xs
end
section
variable {K : PySem.W.Frag} {ca : Ca} {m m' : List Addr} {H H' : Hp} {a : Addr} {c : String}
mutual
theorem VR.noX (h0 : ca.ex = none) : ∀ {x : PV} {v : V}, VR K ca H m x v → FL.noX x = true
  | _, _, .non => rfl
  | _, _, .bl b => rfl
  | _, _, .int i => rfl
  | _, _, .str x => rfl
  | _, _, .ty n => rfl
  | _, _, .cls n => rfl
  | _, _, .exc h => by rw [h0] at h; cases h
  | _, _, .ref h => rfl
  | _, _, .tup h r => by simp only [FL.noX]; exact VRs.noXs h0 r
  | _, _, .frz h r => by simp only [FL.noX]; exact VRs.noXs h0 r
theorem VRs.noXs (h0 : ca.ex = none) : ∀ {xs : List PV} {vs : List V}, VRs K ca H m xs vs → FL.noXs xs = true
  | _, _, .nil => rfl
  | _, _, .cons h r => by simp only [FL.noXs, Bool.and_eq_true]; exact ⟨VR.noX h0 h, VRs.noXs h0 r⟩
end
mutual
theorem VR.at (h0 : ca.ex = none) : ∀ {x : PV} {v : V}, VR K ca H m x v → VR K (ca.at a c) H m x v
  | _, _, .non => .non
  | _, _, .bl b => .bl b
  | _, _, .int i => .int i
  | _, _, .str x => .str x
  | _, _, .ty n => .ty n
  | _, _, .cls n => .cls (ca := ca.at a c) n
  | _, _, .exc h => by rw [h0] at h; cases h
  | _, _, .ref h => .ref h
  | _, _, .tup h r => .tup h (VRs.at h0 r)
  | _, _, .frz h r => .frz h (VRs.at h0 r)
theorem VRs.at (h0 : ca.ex = none) : ∀ {xs : List PV} {vs : List V}, VRs K ca H m xs vs → VRs K (ca.at a c) H m xs vs
  | _, _, .nil => .nil
  | _, _, .cons h r => .cons (VR.at h0 h) (VRs.at h0 r)
end
mutual
theorem VR.back : ∀ {x : PV} {v : V}, VR K (ca.at a c) H m x v → FL.noX x = true → VR K ca H m x v
  | _, _, .non, _ => .non
  | _, _, .bl b, _ => .bl b
  | _, _, .int i, _ => .int i
  | _, _, .str x, _ => .str x
  | _, _, .ty n, _ => .ty n
  | _, _, .cls n, _ => .cls (ca := ca) n
  | _, _, .exc h, e => by cases e
  | _, _, .ref h, _ => .ref h
  | _, _, .tup h r, e => .tup h (VRs.back r (by simpa only [FL.noX] using e))
  | _, _, .frz h r, e => .frz h (VRs.back r (by simpa only [FL.noX] using e))
theorem VRs.back : ∀ {xs : List PV} {vs : List V}, VRs K (ca.at a c) H m xs vs → FL.noXs xs = true → VRs K ca H m xs vs
  | _, _, .nil, _ => .nil
  | _, _, .cons h r, e => by
    simp only [FL.noXs, Bool.and_eq_true] at e
    exact .cons (VR.back h e.1) (VRs.back r e.2)
end
theorem KR.at {κ : Type} (h0 : ca.ex = none) {x : List (κ × PV)} {y : List (κ × V)} (h : KR K ca H m x y) : KR K (ca.at a c) H m x y := Paired.mapP h fun _ _ q => ⟨q.1, q.2.at h0⟩
theorem DR.at (h0 : ca.ex = none) {x : List (NestedKey × PV)} {y : List (NestedKey × Addr × V)} (h : DR K ca H m x y) : DR K (ca.at a c) H m x y := Paired.mapP h fun _ _ q => ⟨q.1, q.2.1, q.2.2.at h0⟩
theorem OR.at (h0 : ca.ex = none) {p : Addr} {o : PO} (h : OR K ca H m p o) : OR K (ca.at a c) H m p o := by
  cases o with
  | lst xs => obtain ⟨vs, q, r⟩ := h; exact ⟨vs, q, r.at h0⟩
  | dK kvs => obtain ⟨vs, q, r⟩ := h; exact ⟨vs, q, r.at h0⟩
  | dN kvs => obtain ⟨vs, q, r⟩ := h; exact ⟨vs, q, r.at h0⟩
  | ins c fs => obtain ⟨dx, vs, q, r⟩ := h; exact ⟨dx, vs, q, r.at h0⟩
theorem SR.at' (h0 : ca.ex = none) {st : Store} (h : SR K ca H m st) : SR K (ca.at a c) H m st := ⟨h.len, h.nd, fun n p o e f => (h.ob n p o e f).at h0⟩
theorem ER.at (h0 : ca.ex = none) {e : Env} {σ : L2.St} (h : ER K ca H m e σ) : ER K (ca.at a c) H m e σ := ⟨h.1, fun i v q => let ⟨w, x, y⟩ := h.2 i v q; ⟨w, x, y.at h0⟩⟩
theorem KR.back {κ : Type} {x : List (κ × PV)} {y y0 : List (κ × V)} (h0 : ca.ex = none) (g : KR K ca H' m' x y0) (h : KR K (ca.at a c) H m x y) : KR K ca H m x y := by
  unfold KR at g h ⊢
  induction h generalizing y0 with
  | nil => exact .nil
  | cons r t ih =>
    cases g with
    | cons r' t' => exact .cons ⟨r.1, r.2.back (r'.2.noX h0)⟩ (ih t')
theorem DR.back {x : List (NestedKey × PV)} {y y0 : List (NestedKey × Addr × V)} (h0 : ca.ex = none) (g : DR K ca H' m' x y0) (h : DR K (ca.at a c) H m x y) : DR K ca H m x y := by
  unfold DR at g h ⊢
  induction h generalizing y0 with
  | nil => exact .nil
  | cons r t ih =>
    cases g with
    | cons r' t' => exact .cons ⟨r.1, r.2.1, r.2.2.back (r'.2.2.noX h0)⟩ (ih t')
theorem OR.back (h0 : ca.ex = none) {p p0 : Addr} {o : PO} (g : OR K ca H' m' p0 o) (h : OR K (ca.at a c) H m p o) : OR K ca H m p o := by
  cases o with
  | lst xs => obtain ⟨vs, q, r⟩ := h; obtain ⟨_, _, r0⟩ := g; exact ⟨vs, q, r.back (r0.noXs h0)⟩
  | dK kvs => obtain ⟨vs, q, r⟩ := h; obtain ⟨_, _, r0⟩ := g; exact ⟨vs, q, KR.back h0 r0 r⟩
  | dN kvs => obtain ⟨vs, q, r⟩ := h; obtain ⟨_, _, r0⟩ := g; exact ⟨vs, q, DR.back h0 r0 r⟩
  | ins c fs => obtain ⟨dx, vs, q, r⟩ := h; obtain ⟨_, _, _, r0⟩ := g; exact ⟨dx, vs, q, KR.back h0 r0 r⟩
/-- the same store, behind a handler -/
theorem SR.back (h0 : ca.ex = none) {st : Store} (g : SR K ca H' m' st) (h : SR K (ca.at a c) H m st) : SR K ca H m st := by
  refine ⟨h.len, h.nd, fun n p o e f => ?_⟩
  obtain ⟨p0, _, q⟩ := g.get f
  exact OR.back h0 q (h.ob n p o e f)
end
/-! ### isinstance of what is handled -/
def namesOf : List PV → Option (List String)
  | [] => some []
  | .cls d :: r => (namesOf r).map fun l => d :: l
  | _ :: _ => none
def isEV (XN : List String × List String) (xs : List PV) (st : Store) : O PV := match xs with
  | [.exc c, .cls d] => if c ∈ XN.1 ∧ d ∈ XN.2 then some (.bl (isEx c d), st) else none
  | [.exc c, .ty n] => if c ∈ XN.1 ∧ n = "ValueError" then some (.bl true, st) else none
  | [.exc c, .tup ds] => match namesOf ds with
    | some l => if c ∈ XN.1 ∧ ∀ d ∈ l, d ∈ XN.2 then some (.bl (l.any fun d => isEx c d), st) else none
    | none => none
  | _ => none
/-- the context bears the exception that is handled -/
def Pinned (X : Cx) (ca : Ca) : Prop := ∀ a c, ca.ex = some (a, c) → ∃ oe, (a, oe) ∈ X.pn ∧ Zc (.ref (ca c)) none oe ∧ ∃ vs, oe.data = .fields vs
section
variable {X : Cx} {W : WX} {ca : Ca} {XN : List String × List String}
theorem inst_at {pins : List (Addr × Obj)} {σ : L2.St} {H : Hp} {s : Shared} {a : Addr} {oe : Obj} {D : Addr} (I : Inv X pins σ H s) (hp : (a, oe) ∈ X.pn) (hz : Zc (.ref D) none oe) (hf : ∃ vs, oe.data = .fields vs) : PySem.W.InstAt s.heap a oe D none := by
  obtain ⟨hget, _⟩ := I.pin (a, oe) (List.mem_append.mpr (.inl hp))
  obtain ⟨vs, hv⟩ := hf
  obtain ⟨oc, od, oda, osl⟩ := oe
  obtain ⟨h1, h2⟩ := hz
  dsimp only at h1 h2 hv
  subst h1 h2 hv
  exact ⟨hget, rfl, rfl, trivial⟩
theorem names_ok {K : PySem.W.Frag} {H : Hp} {m : List Addr} : ∀ {xs : List PV} {vs : List V} {l : List String}, VRs K ca H m xs vs → namesOf xs = some l → vs = l.map fun d => V.ref (ca d)
  | _, _, l, .nil, e => by simp only [namesOf, Option.some.injEq] at e; subst e; rfl
  | _, _, l, .cons h r, e => by
    cases h with
    | cls n =>
      simp only [namesOf] at e
      obtain ⟨l', e1, rfl⟩ := Option.map_eq_some_iff.mp e
      rw [names_ok r e1, List.map_cons]
    | _ => cases e
theorem kit_any {K : PySem.W.Frag} (hX : XFacts K ca XN) {c : String} (hc : c ∈ XN.1) : ∀ {l : List String}, (∀ d ∈ l, d ∈ XN.2) → PySem.W.kitAny K (.ref (ca c)) (l.map fun d => Value.ref (ca d)) = some (l.any fun d => isEx c d)
  | [], _ => rfl
  | d :: r, h => by
    have ih := kit_any hX hc (l := r) fun x hx => h x (List.mem_cons_of_mem _ hx)
    rw [List.map_cons]
    unfold PySem.W.kitAny
    rw [hX.kit c hc d (h d List.mem_cons_self), List.any_cons]
    cases isEx c d with
    | true => rfl
    | false => simpa using ih
theorem refs_of : ∀ {l : List String} {us : List Value}, Vals (l.map fun d => V.ref (ca d)) us → us = l.map fun d => Value.ref (ca d)
  | [], _, r => by cases r; rfl
  | d :: l, _, r => by
    rw [List.map_cons] at r
    cases r with
    | cons h t =>
      rw [refs_of t, List.map_cons]
      congr 1
theorem cb_isE (hX : XFacts X.K ca XN) (hP : Pinned X ca) : CbF X ca (.builtin "isinstance") (isEV XN) := by
  refine ⟨fun vs H Q => ∃ a c, ca.ex = some (a, c) ∧ c ∈ XN.1 ∧ ((∃ d, vs = [.ref a, .ref (ca d)] ∧ d ∈ XN.2 ∧ Q (.bl (isEx c d)) H) ∨ (vs = [.ref a, .ty "ValueError"] ∧ Q (.bl true) H) ∨
      (∃ (t : Addr) (l : List String), vs = [.ref a, .ref t] ∧ SqT X.K H t (l.map fun d => V.ref (ca d)) ∧ (∀ d ∈ l, d ∈ XN.2) ∧ Q (.bl (l.any fun d => isEx c d)) H)), fun pins s σ H vs us Q I r h => ?_, fun H m st xs vs Q s r p => ?_⟩
  · obtain ⟨a, c, he, hc, h⟩ := h
    obtain ⟨oe, hp, hz, hf⟩ := hP a c he
    have C := hX.ex c hc
    have J := inst_at I hp hz hf
    have Z := PySem.W.handS_kitx_exc (x := a) (ox := oe) C.hg C.hk C.hs C.hd C.ha C.hn C.ht C.hm
    rcases h with ⟨d, rfl, hd, q⟩ | ⟨rfl, q⟩ | ⟨t, l, rfl, hq, hl, q⟩
    · cases r with
      | cons r1 r => cases r with
        | cons r2 r =>
          cases r; cases r1; cases r2
          exact PySem.W.kia_one Z I.kIn J (hX.kit c hc d hd) (fun z => nomatch z) fun tk => ⟨.bl (isEx c d), H, I.kept (t' := tk) fun _ _ z => z, rfl, q⟩
    · cases r with
      | cons r1 r => cases r with
        | cons r2 r =>
          cases r; cases r1; cases r2
          exact PySem.W.kia_one Z I.kIn J (hX.ve c hc) (fun z => nomatch z) fun tk => ⟨.bl true, H, I.kept (t' := tk) fun _ _ z => z, rfl, q⟩
    · cases r with
      | cons r1 r => cases r with
        | cons r2 r =>
          cases r; cases r1; cases r2
          obtain ⟨its, rv, ⟨o, h1, h2, n, h3⟩, hz⟩ := I.tuple hq
          have e3 := refs_of rv
          subst e3
          obtain ⟨oc, od, dt, sl⟩ := o
          simp only at h2 h3
          subst h2 h3
          exact PySem.W.kia_tup Z I.kIn J h1 (kit_any hX hc hl) (fun z => nomatch z) fun tk => ⟨.bl (l.any fun d => isEx c d), H, I.kept (t' := tk) fun _ _ z => z, rfl, q⟩
  · unfold isEV at p
    split at p
    · obtain ⟨v, w, rfl, r1, r2⟩ := vrs2 r
      cases r1 with
      | exc he =>
        cases r2
        split at p
        · rename_i hh
          exact ⟨_, _, he, hh.1, .inl ⟨_, rfl, hh.2, p.val s (.bl _)⟩⟩
        · exact p.elim
    · obtain ⟨v, w, rfl, r1, r2⟩ := vrs2 r
      cases r1 with
      | exc he =>
        cases r2
        split at p
        · rename_i hh
          obtain ⟨h1, rfl⟩ := hh
          exact ⟨_, _, he, h1, .inr (.inl ⟨rfl, p.val s (.bl _)⟩)⟩
        · exact p.elim
    · obtain ⟨v, w, rfl, r1, r2⟩ := vrs2 r
      cases r1 with
      | exc he =>
        cases r2 with
        | tup hs rr =>
          split at p
          · rename_i l hl
            split at p
            · rename_i hh
              have e := names_ok rr hl
              subst e
              exact ⟨_, _, he, hh.1, .inr (.inr ⟨_, l, rfl, hs, hh.2, p.val s (.bl _)⟩)⟩
            · exact p.elim
          · exact p.elim
    · exact p.elim
/-! ### a def called while an exception is handled -/
structure FnP (P : Program) (w : World) (K : PySem.W.Frag) (mg : Str → Option Value) (base : Heap) (CX : CXT) (k : Nat) (f : Addr) (fd : FuncData) (ps : List Str) (sp : (Addr × Obj) → Sp) : Prop where
  len : ∀ p vs H Q E, sp p vs H Q E → vs.length = ps.length
  run : ∀ (A : Around) (outer : List PySem.Env) (s : Shared) (H : Hp) (args : Args) (us : List Value) (vs : List V) (Q : VK) (E : XK) (p : Addr × Obj), L2H.RoomH k A → L2H.PinOk outer H s p → Env0 P w K mg base A outer s H → BindsTo s fd args (ps.zip us) → Vals vs us → sp p vs H Q E →
    codeAny (model P w) A (.call (.ref f) args) (CR CX outer P w H s Q E) s
theorem fn_ofP {CX : CXT} {P : Program} {w : World} {K : PySem.W.Frag} {mg : Str → Option Value} {base : Heap} {k : Nat} {f : Addr} {name qual : Str} {params : Arguments} {body : List Stmt} {scope : Scope} {dV kV doc pm cdv ct oc : Value} {an od : Option Addr}
    {osl : Array (Option Value)} {N ps : List Str} {sp : (Addr × Obj) → Sp} (lk : K.lookup f = some ⟨oc, od, .func (PySem.W.fnOf name qual params body scope dV kV doc pm an cdv ct), osl⟩) (hcd : PySem.W.codeIn K cdv qual = true) (S : FnScope N ps scope)
    (len : ∀ p vs H Q E, sp p vs H Q E → vs.length = ps.length)
    (hbody : ∀ (A : Around) (outer : List PySem.Env) (s : Shared) (H : Hp) (vs : List V) (Q : VK) (E : XK) (p : Addr × Obj), L2H.RoomH k (A.deeper (envOfC qual scope s.heap.objs.size f cdv)) → sp p vs H Q E →
      ∃ t, PSs (L2H.cxH CX P w K mg base N qual scope f cdv A outer s H E p) body t ∧ t { nx := fun _ H' => Q .non H', rt := Q } (L2.start N vs) H) :
    FnP P w K mg base CX (k + 1) f (PySem.W.fnOf name qual params body scope dV kV doc pm an cdv ct) ps sp := by
  refine ⟨len, fun A outer s H args us vs Q E p hr hpin e0 hb r hsp => ?_⟩
  have hl := len _ _ _ _ _ hsp
  have KX : K.In s.heap := e0.mod.kin.keeps fun b o e => (e0.bs b o e).1
  have lim : s.heap.NoLimit := e0.mod.nolimit.keeps fun b o e => (e0.bs b o e).1
  have hkind : ∀ y ∈ ps.zip us, scope.names.lookup y.1 = some .local ∨ (scope.names.lookup y.1 = some .cell ∧ ((cellsFrom (s.heap.objs.size + 1) scope.names []).lookup y.1).isSome = true) := fun ⟨n, v⟩ hy => by
    rcases S.par n (List.of_mem_zip hy).1 with q | q
    · exact .inl q
    · exact .inr ⟨q, PySem.W.cellsFrom_some _ _ _ (.inl q)⟩
  refine codeAny_call_function hr.depth (KX _ _ lk) rfl S.co S.gen rfl (PySem.W.codeRec_of KX hcd) (hb _ _ _ _ ?_)
  refine wpAny_newFunctionEnv_cells S.kind hkind fun env he s1 x => ?_
  subst he
  refine ⟨lim.keeps x.toInCall.keep, codeAny_func ?_⟩
  obtain ⟨t, ht, hq⟩ := hbody A outer s H vs Q E p (hr.deeper _) hsp
  have I : Inv (L2H.cxH CX P w K mg base N qual scope f cdv A outer s H E p) [] (L2.start N vs) H s1 := L2H.inv_startH S hpin e0 hl r x
  refine wpAny_mono (ht.run [] s1 (L2.start N vs) H _ I hq) (fun fl s' hs => ?_) fun e s' hs => hs
  have fin : ∀ {σ' : L2.St} {H' : Hp} {v : V} {u : Value}, Inv (L2H.cxH CX P w K mg base N qual scope f cdv A outer s H E p) [] σ' H' s' → RelV v u → Q v H' → CE outer P w H s Q u s' :=
    fun {σ' H' v u} J rv q => ⟨v, H', J.os, J.bare, J.base, J.hok, rv, q⟩
  cases fl with
  | ret u =>
    obtain ⟨v, σ', H', J, rv, q⟩ := hs
    exact fin J rv q
  | next =>
    obtain ⟨σ', H', J, q⟩ := hs
    exact fin (v := V.non) (u := Value.none) J rfl q
  | brk =>
    obtain ⟨_, _, _, q⟩ := hs
    exact False.elim q
  | cont =>
    obtain ⟨_, _, _, q⟩ := hs
    exact False.elim q
theorem run_fnP {CX : CXT} {k : Nat} {f : Addr} {fd : FuncData} {ps : List Str} {sp : (Addr × Obj) → Sp} {E : L2.St → XK} {p : Addr × Obj} {pins : List (Addr × Obj)} {σ : L2.St} {H : Hp} {s : Shared} {Q : VK} {us : List Value} {vs : List V} (F : FnP X.prog X.w X.K X.mg X.base CX k f fd ps sp) (hr : L2H.RoomH k X.A) (hp : p ∈ X.pn) (hb : Binds X.K fd ps []) (hx : PassesAt CX X σ (E σ))
    (I : Inv X pins σ H s) (r : Vals vs us) (h : sp p vs H Q (E σ)) : wpAny (model X.prog X.w) X.A (call (.ref f) us) (EP X pins σ Q) X.xe s := by
  have hl : us.length = ps.length := by rw [← r.length]; exact F.len _ _ _ _ _ h
  have b := hb s us I.kIn (by rw [List.append_nil]; exact hl)
  rw [List.append_nil] at b
  have P1 := I.pin p (List.mem_append_left _ hp)
  have hpin : L2H.PinOk X.stack H s p := ⟨P1.1, P1.2.1, fun hm => (List.mem_cons.mp (I.stkSub p.1 hm)).elim P1.2.2.1 P1.2.2.2.1, P1.2.2.2.2⟩
  refine wpAny_call (codeAny_mono (F.run X.A X.stack s H ⟨us, []⟩ us vs Q (E σ) p hr hpin I.env0 b r h) fun r s' hq => ?_)
  cases r with
  | error e => exact hx pins H s e s' I hq
  | ok fl =>
    cases fl with
    | ret u => exact I.after hq
    | next => exact False.elim hq
    | brk => exact False.elim hq
    | cont => exact False.elim hq
/-- what such a def does -/
def spX (K : PySem.W.Frag) (ca : Ca) (n : Nat) (F : Fn) (p : Addr × Obj) : Sp := fun vs H Q E => ∃ c, (Zc (.ref (ca c)) none p.2 ∧ ∃ vs, p.2.data = .fields vs) ∧ spF K (ca.at p.1 c) n F vs H Q E
structure CalX (P : Program) (w : World) (K : PySem.W.Frag) (mg : Str → Option Value) (base : Heap) (ca : Ca) (k : Nat) (f : Addr) (fd : FuncData) (ps : List Str) (F : Fn) : Prop where
  ok : FnP P w K mg base (L2.CX P w) k f fd ps (spX K ca ps.length F)
  kp : PySem.W.keepIn K (.ref f) = true
theorem je_callX {k n : Nat} {f : Addr} {fd : FuncData} {ps : List Str} {F : Fn} {x : Str} {p pos : Pos} {e : Expr} {es : List Expr} {fa : FA} {a : Addr} {c : String} {oe : Obj} (tk : Takes X W) (C : CalX X.prog X.w X.K X.mg X.base ca k f fd ps F) (b : Binds X.K fd ps []) (hr : L2H.RoomH k X.A) (hm : X.mg x = some (.ref f))
    (hp : (a, oe) ∈ X.pn) (hz : Zc (.ref (ca c)) none oe) (hf : ∃ vs, oe.data = .fields vs) (ha : JA X W (ca.at a c) (e :: es) fa) (hn : ps.length = n := by rfl) (hg : Gl X x := by rfl) (hdb : (x == ("__debug__" : Str)) = false := by decide) (he : starEach (e :: es) X.env = (false, eval e X.env) :: starEach es X.env := by rfl) (hpl : (backTo pos (starEach es X.env)).any (·.1) = false := by rfl) :
    JE X W (ca.at a c) (.Call (.Name x p) (e :: es) [] pos) (callF n F [] fa) := by
  subst hn
  obtain ⟨t, pa, r⟩ := ha.ex
  refine ⟨fun σ H Q => t σ H fun vs H1 => spX X.K ca ps.length F (a, oe) vs H1 Q (WE W σ), ⟨fun pins s σ H Q I h => ?_⟩, fun σ H m env st Q s e h => ?_⟩
  · refine wpAny_Call_Name_kw (ld_glob I hg hm ?_ hdb)
    refine PySem.W.callWith_K (h₀ := X.base) I.ok.mod.kin C.kp (thn (pa.run pos pins s σ H _ I h) fun us s1 ⟨vs, H1, I1, r, q⟩ => ⟨I1.kIn, ?_⟩) he hpl
    exact run_fnP (E := WE W) C.ok hr hp b (passAt tk σ) I1 r q
  · refine r σ H m env st _ s e (Post.bind h fun x st1 m1 x' H1 p1 k1 s1 r1 h1 => ?_)
    rw [List.append_nil] at h1
    split at h1
    · rename_i hl
      exact ⟨c, ⟨hz, hf⟩, m1, st1, _, s1, r1, hl, h1⟩
    · exact h1.elim
end
section
variable {P : Program} {w : World} {K : PySem.W.Frag} {mg : Str → Option Value} {base : Heap} {ca : Ca}
theorem cal_mkX {x qual : Str} {st : Stmt} {f : Addr} {fd : FuncData} {N ps : List Str} {k n : Nat} {body : FS} (F : L2.Fun K x qual st f fd) (S : FnScope N ps (defScope st)) (hn : N.length = n)
    (hbody : ∀ (cdv : Value) (A : Around) (outer : List PySem.Env) (s : Shared) (H : Hp) (E : XK) (p : Addr × Obj) (c : String), Zc (.ref (ca c)) none p.2 → (∃ vs, p.2.data = .fields vs) → L2H.RoomH k (A.deeper (envOfC qual (defScope st) s.heap.objs.size f cdv)) →
      Takes (L2H.cxH (L2.CX P w) P w K mg base N qual (defScope st) f cdv A outer s H E p) (fun cls d _ H => E cls d H) →
      JSs (L2H.cxH (L2.CX P w) P w K mg base N qual (defScope st) f cdv A outer s H E p) (fun cls d _ H => E cls d H) (ca.at p.1 c) (defBody st) body) :
    CalX P w K mg base ca (k + 1) f fd ps (runFn n body) := by
  subst hn
  obtain ⟨oc, od, kV, doc, pm, an, cdv, ct, osl, rfl, lk, hcd⟩ := F.ex
  refine ⟨fn_ofP lk hcd S (fun p vs H Q E h => ?_) (fun A outer s H vs Q E p hr h => ?_), F.kp⟩
  · obtain ⟨_, _, m, st, xs, _, r, hl, _⟩ := h
    rw [← r.length, hl]
  · obtain ⟨c, ⟨hz, hf⟩, m, st, xs, s0, r, hl, h⟩ := h
    obtain ⟨t, q, z⟩ := (hbody cdv A outer s H E p c hz hf hr (takes_of rfl rfl rfl rfl)).ex
    refine ⟨t, q, z _ H m (xs.map some ++ List.replicate (N.length - xs.length) none) st _ s0 (er_start r) ?_⟩
    unfold runFn at h
    cases q : body (xs.map some ++ List.replicate (N.length - xs.length) none) st with
    | nx e1 s1 => rw [q] at h; exact fun m1 σ1 H1 p1 k1 s2 _ => h.gc s0 m1 _ H1 p1 k1 s2 .non
    | rt v s1 => rw [q] at h; exact fun m1 w1 H1 p1 k1 s2 r1 => h.gc s0 m1 w1 H1 p1 k1 s2 r1
    | er x e1 s1 => rw [q] at h; exact fun m1 d σ1 H1 p1 k1 s2 _ r1 => h.gcx s0 m1 d H1 p1 k1 s2 r1
    | bk e1 s1 => rw [q] at h; exact h.elim
    | ct e1 s1 => rw [q] at h; exact h.elim
    | no => rw [q] at h; exact h.elim
end
/-! ### raise C('text') -/
def raiseS (c : String) : FS := fun e st => .er ⟨c, none⟩ e st
section
variable {X : Cx} {W : WX} {ca : Ca} {XN : List String × List String}
theorem js_raise {c : String} {bmB : List Value} {B newId initId : String} {x m : Str} {j : Nat} {p p2 pos pos2 : Pos} (F : ExcBaseFacts B newId initId bmB) (q : PySem.W.excIn X.K (ca c) bmB newId = true) (gC : X.mg x = some (.ref (ca c))) (kC : PySem.W.keepIn X.K (.ref (ca c)) = true)
    (r1 : PySem.W.subIn X.K (.ref (ca c)) (.type "BaseException") = some true) (r2 : PySem.W.typeIn X.K (.ref (ca c)) = some (.type "type")) (tk : Takes X W) (hc : X.calm = true := by rfl) (hg : Gl X x := by rfl) (hdb : (x == ("__debug__" : Str)) = false := by decide) : JS X W ca (.Raise (some (.Call (.Name x p) [.Constant (.str m) j p2] [] pos)) none pos2) (raiseS c) := by
  refine ⟨_, ps_raise hc tk (pmk_own F q gC kC (raises_own r1 r2) hg hdb), fun σ H m0 env st D s e h => ?_⟩
  exact h m0 none σ H (List.prefix_refl _) Keep.refl s e rfl
/-! ### a body's reading that hangs on no context -/
def tC (K : PySem.W.Frag) (ca : Ca) (W : WX) (f : FS) : TS := fun D σ H => ∃ m env st, SR K ca H m st ∧ ER K ca H m env σ ∧ PostS K ca (EWs W ca) m H D (f env st)
theorem JSs.canon {body : List Stmt} {f : FS} (h : JSs X W ca body f) : PSs X body (tC X.K ca W f) := by
  obtain ⟨t, p, r⟩ := h.ex
  exact ⟨fun pins s σ H D I ⟨m, env, st, s0, e0, h0⟩ => p.run pins s σ H D I (r σ H m env st D s0 e0 h0)⟩
/-! ### try: .. except C as e: y = .. -/
abbrev WN : WX := fun _ _ _ _ => False
open Classical in
def tryAsS (XN : List String × List String) (i j : Nat) (cC : String) (fb : FS) (fh : FE) : FS := fun e st => match fb e st with
  | .er ⟨c, none⟩ e1 s1 => if c ∈ XN.1 then (if isEx c cC = true then (match fh (e1.set i (some (.exc c))) s1 with
      | .ok v s2 => if s2 = s1 ∧ noX v = true then .nx ((e1.set i none).set j (some v)) s1 else .no
      | _ => .no) else .er ⟨c, none⟩ e1 s1) else .no
  | .er _ _ _ => .no
  | r => r
theorem js_tryAs {i j : Nat} {cC : String} {x n : Str} {body suite : List Stmt} {b₀ : Stmt} {np pos pos' : Pos} {fb : FS} {fh : FE} (hX : XFacts X.K ca XN) (hC : cC ∈ XN.2) (hij : i ≠ j) (hs : X.stack = X.env :: X.outer) (hf : X.env.frame = some X.env.locals) (hN : X.N.Nodup) (hc : X.mg x = some (.ref (ca cC))) (tk : Takes X W)
    (hb : ∀ (W : WX) (pn : List (Addr × Obj)) (xe : Value → Shared → Prop), Takes (X.tr pn xe) W → PassesOwn (model X.prog X.w) X.A X.env xe → JSs (X.tr pn xe) W ca body fb)
    (hsu : ∀ (a : Addr) (oe : Obj) (c : String) (pn : List (Addr × Obj)), Zc (.ref (ca c)) none oe → (∃ vs, oe.data = .fields vs) → JSs (X.suite a ((a, oe) :: pn)) WN (ca.at a c) (b₀ :: suite) (setS j fh))
    (h0 : ca.ex = none := by rfl) (hi : X.N[i]? = some n := by rfl) (hln : X.env.kindOf n = some .local := by rfl) (hg : Gl X x := by rfl) (hd : (x == ("__debug__" : Str)) = false := by decide) :
    JS X W ca (.Try body [.ExceptHandler (some (.Name x np)) (some n) (b₀ :: suite) pos'] [] [] pos) (tryAsS XN i j cC fb fh) := by
  refine ⟨_, ps_try_as (tb := fun W' => tC X.K ca W' fb) (ts := fun a cls d => fun D σ H => ∃ c, cls = .ref (ca c) ∧ d = none ∧ tC X.K (ca.at a c) WN (setS j fh) D σ H) hs hf hN hi hln ⟨hg, hd, .inl hc⟩ tk (fun W' pn xe tk' hp => (hb W' pn xe tk' hp).canon) (fun a oe cls d pn hz hfl => ⟨fun pins s σ H D I ⟨c, hc1, hd1, h⟩ => ?_⟩), fun σ H m env st D s e h => ?_⟩
  · subst hc1 hd1
    exact (hsu a oe c pn hz hfl).canon.run pins s σ H D I h
  · refine ⟨m, env, st, s, e, ?_⟩
    unfold tryAsS at h
    cases q : fb env st with
    | nx e1 s1 => rw [q] at h; exact h
    | rt v s1 => rw [q] at h; exact h
    | bk e1 s1 => rw [q] at h; exact h
    | ct e1 s1 => rw [q] at h; exact h
    | no => rw [q] at h; exact h
    | er x e1 s1 =>
      rw [q] at h
      obtain ⟨c, val⟩ := x
      cases val with
      | some z => exact h.elim
      | none =>
        simp only at h
        split at h
        · rename_i hcx
          intro m' d σ' H' p' k' s' e' hx
          have hdn : d = none := hx
          subst hdn
          refine ⟨isEx c cC, hX.exm c hcx cC hC, fun hb a ha => ?_, fun hb => ?_⟩
          · rw [if_pos hb] at h
            refine ⟨c, rfl, rfl, m', e1.set i (some (.exc c)), s1, s'.at' h0, (e'.at h0).set (.exc (ca := ca.at a c) rfl) i, ?_⟩
            unfold setS
            cases q2 : fh (e1.set i (some (.exc c))) s1 with
            | er y s2 => rw [q2] at h; exact h.elim
            | no => rw [q2] at h; exact h.elim
            | ok v s2 =>
              rw [q2] at h
              simp only at h
              split at h
              · rename_i hh
                obtain ⟨rfl, hv⟩ := hh
                rw [toS_ok]
                intro m2 σ2 H2 p2 k2 s2' e2
                refine h m2 (σ2.set i none) H2 (p'.trans p2) (k'.trans k2) (SR.back h0 s' s2') ⟨?_, fun l u hu => ?_⟩
                · have := e2.1
                  simp only [List.length_set] at this ⊢
                  exact this
                · by_cases hlj : j = l
                  · subst hlj
                    have jl : j < e1.length := by
                      have := (List.getElem?_eq_some_iff.mp hu).1
                      simpa using this
                    rw [List.getElem?_set_self (by simpa using jl)] at hu
                    cases hu
                    obtain ⟨wv, h1, h2⟩ := e2.2 j v (by rw [List.getElem?_set_self (by simpa using jl)])
                    exact ⟨wv, by rw [List.getElem?_set_ne hij]; exact h1, h2.back hv⟩
                  · rw [List.getElem?_set_ne hlj] at hu
                    have hil : i ≠ l := fun z => by
                      subst z
                      by_cases il : i < e1.length
                      · rw [List.getElem?_set_self il] at hu; cases hu
                      · rw [List.getElem?_eq_none (by simpa using il)] at hu; cases hu
                    rw [List.getElem?_set_ne hil] at hu
                    obtain ⟨w0, _, h2⟩ := e'.2 l u hu
                    obtain ⟨wv, h3, h4⟩ := e2.2 l u (by rw [List.getElem?_set_ne hlj, List.getElem?_set_ne hil]; exact hu)
                    exact ⟨wv, by rw [List.getElem?_set_ne hil]; exact h3, h4.back (h2.noX h0)⟩
              · exact h.elim
          · rw [hb, if_neg Bool.false_ne_true] at h
            exact h m' none σ' H' p' k' s' e' rfl
        · exact h.elim
/-! ### try: .. except C: .. else: .. -/
def tryOnlyS (XN : List String × List String) (cC : String) (fb fh fo : FS) : FS := fun e st => match fb e st with
  | .er ⟨c, none⟩ e1 s1 => if c ∈ XN.1 then (if isEx c cC = true then (match fh e1 s1 with
      | .er _ _ _ => .no
      | r => r) else .er ⟨c, none⟩ e1 s1) else .no
  | .er _ _ _ => .no
  | .nx e1 s1 => fo e1 s1
  | r => r
theorem js_tryOnly {cC : String} {x : Str} {body suite orelse : List Stmt} {b₀ : Stmt} {np pos pos' : Pos} {fb fh fo : FS} (hX : XFacts X.K ca XN) (hC : cC ∈ XN.2) (hs : X.stack = X.env :: X.outer) (hf : X.env.frame = some X.env.locals) (hc : X.mg x = some (.ref (ca cC))) (tk : Takes X W)
    (hb : ∀ (W : WX) (pn : List (Addr × Obj)) (xe : Value → Shared → Prop), Takes (X.tr pn xe) W → PassesOwn (model X.prog X.w) X.A X.env xe → JSs (X.tr pn xe) W ca body fb)
    (hsu : ∀ (a : Addr) (oe : Obj) (pn : List (Addr × Obj)), JSs (X.suite a ((a, oe) :: pn)) WN ca (b₀ :: suite) fh) (ho : JSs X W ca orelse fo)
    (hg : Gl X x := by rfl) (hd : (x == ("__debug__" : Str)) = false := by decide) :
    JS X W ca (.Try body [.ExceptHandler (some (.Name x np)) none (b₀ :: suite) pos'] orelse [] pos) (tryOnlyS XN cC fb fh fo) := by
  refine ⟨_, ps_try_onlyE (tb := fun W' => tC X.K ca W' fb) (ts := fun a cls d => tC X.K ca WN fh) ho.canon hs hf ⟨hg, hd, .inl hc⟩ tk (fun W' pn xe tk' hp => (hb W' pn xe tk' hp).canon) (fun a oe cls d pn hz hfl => (hsu a oe pn).canon), fun σ H m env st D s e h => ?_⟩
  refine ⟨m, env, st, s, e, ?_⟩
  unfold tryOnlyS at h
  cases q : fb env st with
  | nx e1 s1 => rw [q] at h; exact fun m1 σ1 H1 p1 k1 s2 e2 => ⟨m1, e1, s1, s2, e2, PostS.mono h p1 k1⟩
  | rt v s1 => rw [q] at h; exact h
  | bk e1 s1 => rw [q] at h; exact h
  | ct e1 s1 => rw [q] at h; exact h
  | no => rw [q] at h; exact h
  | er x e1 s1 =>
    rw [q] at h
    obtain ⟨c, val⟩ := x
    cases val with
    | some z => exact h.elim
    | none =>
      simp only at h
      split at h
      · rename_i hcx
        intro m' d σ' H' p' k' s' e' hx
        have hdn : d = none := hx
        subst hdn
        refine ⟨isEx c cC, hX.exm c hcx cC hC, fun hb a ha => ?_, fun hb => ?_⟩
        · rw [if_pos hb] at h
          refine ⟨m', e1, s1, s', e', ?_⟩
          cases q2 : fh e1 s1 with
          | nx e2 s2 => rw [q2] at h; exact PostS.mono h p' k'
          | rt v s2 => rw [q2] at h; exact PostS.mono h p' k'
          | bk e2 s2 => rw [q2] at h; exact PostS.mono h p' k'
          | ct e2 s2 => rw [q2] at h; exact PostS.mono h p' k'
          | er y e2 s2 => rw [q2] at h; exact h.elim
          | no => rw [q2] at h; exact h
        · rw [hb, if_neg Bool.false_ne_true] at h
          exact h m' none σ' H' p' k' s' e' rfl
      · exact h.elim
end
/-! ### small -/
theorem rh_mark {k : Nat} {A : Around} (r : Room k A) (h : Option Value) : L2H.RoomH k (A.mark h) := ⟨r.dp, r.un⟩
abbrev veB : List Value := [.type "ValueError", .type "Exception", .type "BaseException", .type "object"]
theorem XFacts.at {K : PySem.W.Frag} {ca : Ca} {XN : List String × List String} (h : XFacts K ca XN) (a : Addr) (c : String) : XFacts K (ca.at a c) XN := ⟨h.ex, h.kit, h.ve, h.exm⟩
theorem Pinned.one {X : Cx} {ca : Ca} {a : Addr} {c : String} {oe : Obj} (hp : (a, oe) ∈ X.pn) (hz : Zc (.ref (ca c)) none oe) (hf : ∃ vs, oe.data = .fields vs) : Pinned X (ca.at a c) := fun _ _ e => by
  cases e
  exact ⟨oe, hp, hz, hf⟩
theorem fa_nil {α : Type} {P : α → Prop} : ∀ c ∈ ([] : List α), P c := fun _ h => by cases h
theorem fa_cons {α : Type} {P : α → Prop} {a : α} {l : List α} (h : P a) (t : ∀ c ∈ l, P c) : ∀ c ∈ a :: l, P c := fun c hc => by
  rcases List.mem_cons.mp hc with rfl | hc
  · exact h
  · exact t c hc
end
end FL
end
section
set_option linter.all false
set_option maxRecDepth 100000
namespace FL
open PySem PySem.Spec PyProof.Rows L2
noncomputable section
/-! ## equality of deep things -/
def eqB2 (x y : PV) (st : Store) : Option Bool := match scEq x y with
  | some b => some b
  | none => match toD 190 st x, toD 190 st y with
    | some d, some e => some (PyData.eqv d e)
    | _, _ => none
def eqV2 (x y : PV) (st : Store) : O PV := (eqB2 x y st).map fun b => (.bl b, st)
def neV2 (x y : PV) (st : Store) : O PV := (eqB2 x y st).map fun b => (.bl (!b), st)
section
variable {X : Cx} {ca : Ca}
def rEqD2 (K : PySem.W.Frag) (f : Bool → Bool) (x y : V) (H : Hp) (Q : VK) : Prop := ∃ d e, Dp K H x d ∧ Dp K H y e ∧ d.canLay0 = true ∧ e.canLay0 = true ∧ d.depth ≤ 190 ∧ Q (.bl (f (PyData.eqv d e))) H
theorem op_eqD2 (hu : X.A.units + 190 < cLine) : OpR X (compareOp .Eq) (rEqD2 X.K id) := by
  intro pins s σ H x y v u Q I rx ry h
  obtain ⟨d, e, hd, he, sd, se, hdp, q⟩ := h
  obtain ⟨as, r1⟩ := Dp.reads I d x v hd rx
  obtain ⟨bs, r2⟩ := Dp.reads I e y u he ry
  exact SeqAt.compareEq_reads r1 r2 sd se (by omega) ⟨.bl _, H, I, rfl, q⟩
theorem op_neD2 (hu : X.A.units + 190 < cLine) : OpR X (compareOp .NotEq) (rEqD2 X.K not) := by
  intro pins s σ H x y v u Q I rx ry h
  obtain ⟨d, e, hd, he, sd, se, hdp, q⟩ := h
  obtain ⟨as, r1⟩ := Dp.reads I d x v hd rx
  obtain ⟨bs, r2⟩ := Dp.reads I e y u he ry
  exact SeqAt.compareNe_reads r1 r2 sd se (by omega) ⟨.bl _, H, I, rfl, q⟩
theorem eqB2_ok {K : PySem.W.Frag} {ca : Ca} {m : List Addr} {H : Hp} {st : Store} (s : SR K ca H m st) {x y : PV} {x' y' : V} {b : Bool} (rx : VR K ca H m x x') (ry : VR K ca H m y y') (e : eqB2 x y st = some b) :
    (scal x' y' = true ∧ decide (x' = y') = b) ∨ ∃ d d', Dp K H x' d ∧ Dp K H y' d' ∧ d.canLay0 = true ∧ d'.canLay0 = true ∧ d.depth ≤ 190 ∧ PyData.eqv d d' = b := by
  unfold eqB2 at e
  split at e
  · rename_i b' e1
    cases e
    exact .inl (scEq_ok rx ry e1)
  · split at e
    · rename_i d d' e1 e2
      cases e
      obtain ⟨a1, a2, a3⟩ := toD_ok s rx e1
      obtain ⟨b1, b2, b3⟩ := toD_ok s ry e2
      exact .inr ⟨d, d', a1, b1, a2, b2, a3, rfl⟩
    · cases e
theorem of_eq2 (hu : X.A.units + 190 < cLine) : OpF X ca (compareOp .Eq) eqV2 := by
  refine ⟨_, OpR.or op_eq (op_eqD2 hu), fun H m st x y x' y' Q s rx ry p => ?_⟩
  unfold eqV2 at p
  cases e : eqB2 x y st with
  | none => rw [e] at p; exact p.elim
  | some b =>
    rw [e] at p
    have q := p.val s (.bl b)
    rcases eqB2_ok s rx ry e with ⟨h1, h2⟩ | ⟨d, d', h1, h2, h3, h4, h5, h6⟩
    · exact .inl ⟨h1, by rw [h2]; exact q⟩
    · exact .inr ⟨d, d', h1, h2, h3, h4, h5, by rw [h6]; exact q⟩
theorem of_ne2 (hu : X.A.units + 190 < cLine) : OpF X ca (compareOp .NotEq) neV2 := by
  refine ⟨_, OpR.or op_ne (op_neD2 hu), fun H m st x y x' y' Q s rx ry p => ?_⟩
  unfold neV2 at p
  cases e : eqB2 x y st with
  | none => rw [e] at p; exact p.elim
  | some b =>
    rw [e] at p
    have q := p.val s (.bl (!b))
    rcases eqB2_ok s rx ry e with ⟨h1, h2⟩ | ⟨d, d', h1, h2, h3, h4, h5, h6⟩
    · exact .inl ⟨h1, by rw [h2]; exact q⟩
    · exact .inr ⟨d, d', h1, h2, h3, h4, h5, by rw [h6]; exact q⟩
theorem hu190 {A : Around} {k : Nat} (hr : Room k A) : A.units + 190 < cLine := by have := hr.un; omega
theorem run_er {n : Nat} {body : FS} {args : List PV} {st g : Store} {x : Ex} {e : Env} (h : body (args.map some ++ List.replicate (n - args.length) none) st = .er x e (st ++ g)) (hx : x.val = none) : runFn n body args st = .er x st := by
  unfold runFn
  rw [h]
  exact gcx_app hx
end
end
end FL
end
section
set_option linter.all false
set_option maxRecDepth 100000
end
section
set_option linter.all false
set_option maxRecDepth 100000
namespace FL
open PySem PySem.Spec PyProof.Rows L2
noncomputable section
def b_L_other : FS :=
    (seqS (ifS (orT (truT (cbF (isEV (["NoTree"], ["SameError", "NoTree", "NoRule", "NoRow", "Full", "Apart", "TooBig", "TooWide"])) (consA (varF 0) (consA (cstF (.cls "NoRule")) nilA)))) (orT (truT (cbF (isEV (["NoTree"], ["SameError", "NoTree", "NoRule", "NoRow", "Full", "Apart", "TooBig", "TooWide"])) (consA (varF 0) (consA (cstF (.cls "NoRow")) nilA)))) (truT (cbF (isEV (["NoTree"], ["SameError", "NoTree", "NoRule", "NoRow", "Full", "Apart", "TooBig", "TooWide"])) (consA (varF 0) (consA (cstF (.cls "Full")) nilA)))))) (retS (cstF (.bl true))) nxS)
    (retS (orF (cbF (isEV (["NoTree"], ["SameError", "NoTree", "NoRule", "NoRow", "Full", "Apart", "TooBig", "TooWide"])) (consA (varF 0) (consA (cstF (.cls "Apart")) nilA))) (orF (cbF (isEV (["NoTree"], ["SameError", "NoTree", "NoRule", "NoRow", "Full", "Apart", "TooBig", "TooWide"])) (consA (varF 0) (consA (cstF (.cls "TooBig")) nilA))) (cbF (isEV (["NoTree"], ["SameError", "NoTree", "NoRule", "NoRow", "Full", "Apart", "TooBig", "TooWide"])) (consA (varF 0) (consA (cstF (.cls "TooWide")) nilA)))))))
def F_L_other : Fn := runFn 1 b_L_other
end
end FL
end
section
set_option linter.all false
set_option maxRecDepth 100000
namespace FL
open PySem PySem.Spec PyProof.Rows L2
noncomputable section
def b_parts_s1 (p_parts : Fn) : FS :=
    (augS 1 iaddV (callF 1 p_parts [] (consA (varF 2) nilA)))
def b_parts (p_parts : Fn) : FS :=
    (seqS (setS 1 (cstF (.int 1)))
    (seqS (ifS (isB (opF eqV (opF idxV (varF 0) (cstF (.int 0))) (cstF (.str ("of" : Str))))) (forS (seqI (opF idxV (varF 0) (cstF (.int 2)))) (nameG 2) (b_parts_s1 p_parts)) nxS)
    (retS (varF 1))))
def F_parts : Nat → Fn
  | 0 => fn0
  | n + 1 => runFn 3 (b_parts (F_parts n))
end
end FL
end
section
set_option linter.all false
set_option maxRecDepth 100000
namespace FL
open PySem PySem.Spec PyProof.Rows L2
noncomputable section
def b_run_of_t1 : FT :=
    (andT (isB (opF ltV (varF 3) (cbF lenV (consA (varF 0) nilA)))) (isB (opF inV (opF idxV (varF 0) (varF 3)) (varF 2))))
def b_run_of_s2 : FS :=
    (augS 3 iaddV (cstF (.int 1)))
def b_run_of : FS :=
    (seqS (setS 3 (varF 1))
    (seqS (whS b_run_of_t1 b_run_of_s2)
    (retS (sliF (varF 0) (someO (varF 1)) (someO (varF 3))))))
def F_run_of : Fn := runFn 4 b_run_of
end
end FL
end
section
set_option linter.all false
set_option maxRecDepth 100000
namespace FL
open PySem PySem.Spec PyProof.Rows L2
noncomputable section
def b_number_at : FS :=
    (seqS (setS 2 (bmF' "str" starts3V (varF 0) (consA (cstF (.str ("-" : Str))) (consA (varF 1) nilA))))
    (seqS (ifS (truT (varF 2)) (augS 1 iaddV (cstF (.int 1))) nxS)
    (seqS (setS 3 (callF 3 F_run_of [] (consA (varF 0) (consA (varF 1) (consA (cstF (.str ("0123456789" : Str))) nilA)))))
    (seqS (ifS (notT (isB (chF leV leV (cstF (.int 1)) (cbF lenV (consA (varF 3) nilA)) (cstF (.int 60))))) (raiseS "NoTree") nxS)
    (seqS (ifS (andT (isB (opF eqV (opF idxV (varF 3) (cstF (.int 0))) (cstF (.str ("0" : Str))))) (orT (truT (varF 2)) (isB (opF gtV (cbF lenV (consA (varF 3) nilA)) (cstF (.int 1)))))) (raiseS "NoTree") nxS)
    (seqS (setS 4 (cbF intV (consA (varF 3) nilA)))
    (seqS (ifS (truT (varF 2)) (setS 4 (unF negV (varF 4))) nxS)
    (retS (tupF (consA (tupF (consA (cstF (.str ("num" : Str))) (consA (varF 4) nilA))) (consA (opF addV (varF 1) (cbF lenV (consA (varF 3) nilA))) nilA)))))))))))
def F_number_at : Fn := runFn 5 b_number_at
end
end FL
end
section
set_option linter.all false
set_option maxRecDepth 100000
namespace FL
open PySem PySem.Spec PyProof.Rows L2
noncomputable section
def b_is_word_s1 : FS :=
    (ifS (isB (opF ninV (varF 1) (cstF (.str ("abcdefghijklmnopqrstuvwxyz" : Str))))) (retS (cstF (.bl false))) nxS)
def b_is_word : FS :=
    (seqS (ifS (notT (isB (chF leV leV (cstF (.int 1)) (cbF lenV (consA (varF 0) nilA)) (cstF (.int 8))))) (retS (cstF (.bl false))) nxS)
    (seqS (forS (strI (varF 0)) (nameG 1) b_is_word_s1)
    (retS (cstF (.bl true)))))
def F_is_word : Fn := runFn 2 b_is_word
end
end FL
end
section
set_option linter.all false
set_option maxRecDepth 100000
namespace FL
open PySem PySem.Spec PyProof.Rows L2
noncomputable section
def b_word_at : FS :=
    (seqS (setS 2 (callF 3 F_run_of [] (consA (varF 0) (consA (varF 1) (consA (cstF (.str ("abcdefghijklmnopqrstuvwxyz" : Str))) nilA)))))
    (seqS (ifS (notT (truT (callF 1 F_is_word [] (consA (varF 2) nilA)))) (raiseS "NoTree") nxS)
    (retS (varF 2))))
def F_word_at : Fn := runFn 3 b_word_at
end
end FL
end
section
set_option linter.all false
set_option maxRecDepth 100000
namespace FL
open PySem PySem.Spec PyProof.Rows L2
noncomputable section
def b_tree_at (p_tree_at p_knot_at : Fn) : FS :=
    (seqS (ifS (isB (opF gtV (varF 3) (cstF (.int 30)))) (raiseS "NoTree") nxS)
    (seqS (setS 4 (sliF (varF 0) (someO (varF 1)) (someO (opF addV (varF 1) (cstF (.int 1))))))
    (seqS (ifS (andT (isB (opF neV (varF 4) (cstF (.str ("" : Str))))) (isB (opF inV (varF 4) (cstF (.str ("-0123456789" : Str)))))) (retS (callF 2 F_number_at [] (consA (varF 0) (consA (varF 1) nilA)))) nxS)
    (seqS (ifS (andT (isB (opF eqV (varF 4) (cstF (.str ("?" : Str))))) (notT (truT (varF 2)))) (seqS (setS 5 (callF 2 F_word_at [] (consA (varF 0) (consA (opF addV (varF 1) (cstF (.int 1))) nilA))))
    (retS (tupF (consA (tupF (consA (cstF (.str ("any" : Str))) (consA (varF 5) nilA))) (consA (opF addV (opF addV (varF 1) (cstF (.int 1))) (cbF lenV (consA (varF 5) nilA))) nilA))))) nxS)
    (seqS (setS 5 (callF 2 F_word_at [] (consA (varF 0) (consA (varF 1) nilA))))
    (seqS (augS 1 iaddV (cbF lenV (consA (varF 5) nilA)))
    (seqS (ifS (isB (opF eqV (sliF (varF 0) (someO (varF 1)) (someO (opF addV (varF 1) (cstF (.int 1))))) (cstF (.str ("(" : Str))))) (retS (callF 5 p_knot_at [] (consA (varF 0) (consA (opF addV (varF 1) (cstF (.int 1))) (consA (varF 5) (consA (varF 2) (consA (varF 3) nilA))))))) nxS)
    (retS (tupF (consA (tupF (consA (cstF (.str ("name" : Str))) (consA (varF 5) nilA))) (consA (varF 1) nilA)))))))))))
def b_knot_at_t1 (p_tree_at p_knot_at : Fn) : FT :=
    (truT (cstF (.bl true)))
def b_knot_at_s2 (p_tree_at p_knot_at : Fn) : FS :=
    (seqS (asgS (tupG 2 (consG (nameG 6) (consG (nameG 1) nilG))) (callF 4 p_tree_at [] (consA (varF 0) (consA (varF 1) (consA (varF 3) (consA (opF addV (varF 4) (cstF (.int 1))) nilA))))))
    (seqS (dropS (bmF' "list" appendV (varF 5) (consA (varF 6) nilA)))
    (seqS (ifS (isB (opF eqV (sliF (varF 0) (someO (varF 1)) (someO (opF addV (varF 1) (cstF (.int 1))))) (cstF (.str (")" : Str))))) (retS (tupF (consA (tupF (consA (cstF (.str ("of" : Str))) (consA (varF 2) (consA (cbF tupleV (consA (varF 5) nilA)) nilA)))) (consA (opF addV (varF 1) (cstF (.int 1))) nilA)))) nxS)
    (seqS (ifS (orT (isB (opF neV (sliF (varF 0) (someO (varF 1)) (someO (opF addV (varF 1) (cstF (.int 2))))) (cstF (.str (", " : Str))))) (isB (opF eqV (cbF lenV (consA (varF 5) nilA)) (cstF (.int 4))))) (raiseS "NoTree") nxS)
    (augS 1 iaddV (cstF (.int 2)))))))
def b_knot_at (p_tree_at p_knot_at : Fn) : FS :=
    (seqS (setS 5 (lstF nilA))
    (whS (b_knot_at_t1 p_tree_at p_knot_at) (b_knot_at_s2 p_tree_at p_knot_at)))
mutual
def F_tree_at : Nat → Fn
  | 0 => fn0
  | n + 1 => runFn 6 (b_tree_at (F_tree_at n) (F_knot_at n))
def F_knot_at : Nat → Fn
  | 0 => fn0
  | n + 1 => runFn 7 (b_knot_at (F_tree_at n) (F_knot_at n))
end
end
end FL
end
section
set_option linter.all false
set_option maxRecDepth 100000
namespace FL
open PySem PySem.Spec PyProof.Rows L2
noncomputable section
def b_whole_of : FS :=
    (seqS (asgS (tupG 2 (consG (nameG 2) (consG (nameG 3) nilG))) (callF 4 (F_tree_at 64) [] (consA (varF 0) (consA (cstF (.int 0)) (consA (varF 1) (consA (cstF (.int 1)) nilA))))))
    (seqS (ifS (orT (isB (opF neV (varF 3) (cbF lenV (consA (varF 0) nilA)))) (isB (opF gtV (callF 1 (F_parts 64) [] (consA (varF 2) nilA)) (cstF (.int 120))))) (raiseS "NoTree") nxS)
    (retS (varF 2))))
def F_whole_of : Fn := runFn 4 b_whole_of
end
end FL
end
section
set_option linter.all false
set_option maxRecDepth 100000
namespace FL
open PySem PySem.Spec PyProof.Rows L2
noncomputable section
def b_read : FS :=
    (retS (callF 2 F_whole_of [] (consA (varF 0) (consA (cstF (.bl true)) nilA))))
def F_read : Fn := runFn 1 b_read
end
end FL
end
section
set_option linter.all false
set_option maxRecDepth 100000
namespace FL
open PySem PySem.Spec PyProof.Rows L2
noncomputable section
def b_read_pattern : FS :=
    (retS (callF 2 F_whole_of [] (consA (varF 0) (consA (cstF (.bl false)) nilA))))
def F_read_pattern : Fn := runFn 1 b_read_pattern
end
end FL
end
section
set_option linter.all false
set_option maxRecDepth 100000
namespace FL
open PySem PySem.Spec PyProof.Rows L2
noncomputable section
def b_L_asked : FS :=
    (seqS (setS 2 (cstF .non))
    (seqS (setS 3 (cstF .non))
    (seqS (tryAsS (["NoTree"], ["SameError", "NoTree", "NoRule", "NoRow", "Full", "Apart", "TooBig", "TooWide"]) 4 3 "SameError" (ifS (truT (varF 1)) (setS 2 (callF 1 F_read_pattern [] (consA (varF 0) nilA))) (setS 2 (callF 1 F_read [] (consA (varF 0) nilA))))
    (tupF (consA (cbF (isEV (["NoTree"], ["SameError", "NoTree", "NoRule", "NoRow", "Full", "Apart", "TooBig", "TooWide"])) (consA (varF 4) (consA (cstF (.cls "NoTree")) nilA))) (consA (cbF (isEV (["NoTree"], ["SameError", "NoTree", "NoRule", "NoRow", "Full", "Apart", "TooBig", "TooWide"])) (consA (varF 4) (consA (cstF (.ty "ValueError")) nilA))) (consA (callF 1 F_L_other [] (consA (varF 4) nilA)) nilA)))))
    (retS (tupF (consA (varF 2) (consA (varF 3) nilA)))))))
def F_L_asked : Fn := runFn 5 b_L_asked
end
end FL
end
section
set_option linter.all false
set_option maxRecDepth 100000
namespace FL
open PySem PySem.Spec PyProof.Rows L2
noncomputable section
def b_L_cell_at : FS :=
    (seqS (ifS (isB (opF ltV (varF 1) (cbF lenV (consA (varF 0) nilA)))) (retS (opF idxV (varF 0) (varF 1))) nxS)
    (retS (cstF (.int 0))))
def F_L_cell_at : Fn := runFn 2 b_L_cell_at
end
end FL
end
section
set_option linter.all false
set_option maxRecDepth 100000
namespace FL
open PySem PySem.Spec PyProof.Rows L2
noncomputable section
def b_L_letters_s1 : FS :=
    (ifS (isB (opF ninV (varF 1) (cstF (.str ("abcdefghijklmnopqrstuvwxyz" : Str))))) (retS (cstF (.bl false))) nxS)
def b_L_letters : FS :=
    (seqS (forS (strI (varF 0)) (nameG 1) b_L_letters_s1)
    (retS (chF leV leV (cstF (.int 1)) (cbF lenV (consA (varF 0) nilA)) (cstF (.int 8)))))
def F_L_letters : Fn := runFn 2 b_L_letters
end
end FL
end
section
set_option linter.all false
set_option maxRecDepth 100000
namespace FL
open PySem PySem.Spec PyProof.Rows L2
noncomputable section
def b_L_form_e1 (p_L_form : Fn) : FE :=
    (callF 3 p_L_form [] (consA (varF 3) (consA (opF addV (varF 1) (cstF (.int 1))) (consA (varF 2) nilA))))
def b_L_form (p_L_form : Fn) : FS :=
    (seqS (ifS (orT (notT (truT (cbF isiV (consA (varF 0) (consA (cstF (.ty "tuple")) nilA))))) (orT (isB (opF ltV (cbF lenV (consA (varF 0) nilA)) (cstF (.int 2)))) (isB (opF gtV (varF 1) (cstF (.int 30)))))) (retS (cstF (.int 1000))) nxS)
    (seqS (ifS (andT (isB (opF eqV (opF idxV (varF 0) (cstF (.int 0))) (cstF (.str ("num" : Str))))) (andT (isB (opF eqV (cbF lenV (consA (varF 0) nilA)) (cstF (.int 2)))) (andT (truT (cbF isiV (consA (opF idxV (varF 0) (cstF (.int 1))) (consA (cstF (.ty "int")) nilA)))) (notT (truT (cbF isiV (consA (opF idxV (varF 0) (cstF (.int 1))) (consA (cstF (.ty "bool")) nilA)))))))) (retS (opF addV (cstF (.int 1)) (opF mulV (cstF (.int 1000)) (cbF intV (consA (opF geV (cbF absV' (consA (opF idxV (varF 0) (cstF (.int 1))) nilA)) (opF powV (cstF (.int 10)) (cstF (.int 60)))) nilA))))) nxS)
    (seqS (ifS (orT (notT (truT (cbF isiV (consA (opF idxV (varF 0) (cstF (.int 1))) (consA (cstF (.ty "str")) nilA))))) (notT (truT (callF 1 F_L_letters [] (consA (opF idxV (varF 0) (cstF (.int 1))) nilA))))) (retS (cstF (.int 1000))) nxS)
    (seqS (ifS (andT (orT (isB (opF eqV (opF idxV (varF 0) (cstF (.int 0))) (cstF (.str ("name" : Str))))) (andT (isB (opF eqV (opF idxV (varF 0) (cstF (.int 0))) (cstF (.str ("any" : Str))))) (truT (varF 2)))) (isB (opF eqV (cbF lenV (consA (varF 0) nilA)) (cstF (.int 2))))) (retS (cstF (.int 1))) nxS)
    (seqS (ifS (orT (isB (opF neV (opF idxV (varF 0) (cstF (.int 0))) (cstF (.str ("of" : Str))))) (orT (isB (opF neV (cbF lenV (consA (varF 0) nilA)) (cstF (.int 3)))) (orT (notT (truT (cbF isiV (consA (opF idxV (varF 0) (cstF (.int 2))) (consA (cstF (.ty "tuple")) nilA))))) (notT (isB (chF leV leV (cstF (.int 1)) (cbF lenV (consA (opF idxV (varF 0) (cstF (.int 2))) nilA)) (cstF (.int 4)))))))) (retS (cstF (.int 1000))) nxS)
    (retS (opF addV (cstF (.int 1)) (cbF sumV (consA (lcF (seqI (opF idxV (varF 0) (cstF (.int 2)))) [3] (nameG 3) yesT (b_L_form_e1 p_L_form)) nilA)))))))))
def F_L_form : Nat → Fn
  | 0 => fn0
  | n + 1 => runFn 4 (b_L_form (F_L_form n))
end
end FL
end
section
set_option linter.all false
set_option maxRecDepth 100000
namespace FL
open PySem PySem.Spec PyProof.Rows L2
noncomputable section
def b_L_mixed : FS :=
    (seqS (setS 2 (opF modV (opF mulV (opF addV (opF modV (varF 0) (cstF (.int 2147483647))) (cstF (.int 1))) (opF addV (cstF (.int 48271)) (opF mulV (opF mulV (cstF (.int 2)) (varF 1)) (varF 1)))) (cstF (.int 2147483647))))
    (retS (opF modV (opF mulV (varF 2) (varF 2)) (cstF (.int 2147483629)))))
def F_L_mixed : Fn := runFn 3 b_L_mixed
end
end FL
end
section
set_option linter.all false
set_option maxRecDepth 100000
namespace FL
open PySem PySem.Spec PyProof.Rows L2
noncomputable section
def b_L_figures : FS :=
    (seqS (ifS (isB (opF eqV (varF 1) (cstF (.int 0)))) (retS (opF idxV (lstF (consA (cstF (.str ("-" : Str))) (consA (cstF (.str ("0" : Str))) (consA (cstF (.str ("00" : Str))) (consA (cstF (.str ("-3" : Str))) (consA (cstF (.str ("7" : Str))) (consA (cbF strV (consA (varF 0) nilA)) nilA))))))) (opF modV (opF fdivV (varF 0) (cstF (.int 4))) (cstF (.int 6))))) nxS)
    (retS (opF idxV (lstF (consA (cstF (.str ("0" : Str))) (consA (cstF (.str ("7" : Str))) (consA (cstF (.str ("12" : Str))) (consA (cstF (.str ("000" : Str))) (consA (cbF strV (consA (varF 0) nilA)) (consA (cbF strV (consA (opF powV (varF 0) (cstF (.int 2))) nilA)) nilA))))))) (opF modV (opF fdivV (varF 0) (cstF (.int 4))) (cstF (.int 6))))))
def F_L_figures : Fn := runFn 2 b_L_figures
end
end FL
end
section
set_option linter.all false
set_option maxRecDepth 100000
namespace FL
open PySem PySem.Spec PyProof.Rows L2
noncomputable section
def b_L_word : FS :=
    (seqS (setS 1 (cstF (.str ("abcdefghijklmnopqrstuvwxyz" : Str))))
    (seqS (setS 2 (opF addV (cstF (.int 1)) (opF modV (varF 0) (cstF (.int 8)))))
    (seqS (setS 3 (opF modV (opF fdivV (varF 0) (cstF (.int 8))) (varF 2)))
    (seqS (setS 4 (opF mulV (opF idxV (varF 1) (opF modV (opF fdivV (varF 0) (cstF (.int 1664))) (cstF (.int 26)))) (varF 2)))
    (retS (opF addV (opF addV (sliF (varF 4) noO (someO (varF 3))) (opF idxV (varF 1) (opF modV (opF fdivV (varF 0) (cstF (.int 64))) (cstF (.int 26))))) (sliF (varF 4) (someO (opF addV (varF 3) (cstF (.int 1)))) noO)))))))
def F_L_word : Fn := runFn 5 b_L_word
end
end FL
end
section
set_option linter.all false
set_option maxRecDepth 100000
namespace FL
open PySem PySem.Spec PyProof.Rows L2
noncomputable section
def b_L_piece : FS :=
    (seqS (setS 3 (callF 1 F_L_word [] (consA (opF fdivV (varF 0) (cstF (.int 40))) nilA)))
    (seqS (setS 4 (lstF (consA (varF 3) (consA (cstF (.str ("a" : Str))) (consA (opF addV (varF 3) (cstF (.str ("(" : Str)))) (consA (cstF (.str (")" : Str))) (consA (cstF (.str (", " : Str))) (consA (opF addV (cstF (.str ("?" : Str))) (varF 3)) (consA (cstF (.str ("x(y, " : Str))) (consA (cstF (.str ("z)" : Str))) nilA))))))))))
    (seqS (ifS (isB (opF eqV (varF 2) (cstF (.int 1)))) (retS (callF 2 F_L_figures [] (consA (varF 0) (consA (varF 1) nilA)))) nxS)
    (seqS (ifS (orT (isB (opF gtV (varF 2) (cstF (.int 1)))) (isB (opF gtV (opF modV (varF 0) (cstF (.int 3))) (cstF (.int 0))))) (seqS (ifS (isB (opF neV (varF 2) (cstF (.int 2)))) (setS 4 (opF addV (varF 4) (lstF (consA (cstF (.str ("(" : Str))) (consA (cstF (.str ("0" : Str))) (consA (cstF (.str ("-" : Str))) (consA (cstF (.str ("?" : Str))) (consA (cstF (.str ("7" : Str))) (consA (cstF (.str ("-3" : Str))) (consA (cbF strV (consA (opF powV (varF 0) (cstF (.int 3))) nilA)) (consA (cstF (.str (")" : Str))) nilA))))))))))) nxS)
    (retS (opF idxV (varF 4) (opF modV (opF fdivV (varF 0) (cstF (.int 4))) (cbF lenV (consA (varF 4) nilA)))))) nxS)
    (seqS (setS 5 (cstF (.str (" !\"#$&'()*+,-./0123456789:;<=>?@ABCDEFGHIJKLMNOPQRSTUVWXYZ[\\]^_`" : Str))))
    (seqS (setS 5 (opF addV (varF 5) (cstF (.str ("abcdefghijklmnopqrstuvwxyz{|}~" : Str)))))
    (retS (opF idxV (varF 5) (opF modV (opF fdivV (varF 0) (cstF (.int 4))) (cbF lenV (consA (varF 5) nilA)))))))))))
def F_L_piece : Fn := runFn 6 b_L_piece
end
end FL
end
section
set_option linter.all false
set_option maxRecDepth 100000
namespace FL
open PySem PySem.Spec PyProof.Rows L2
noncomputable section
def b_shown_e1 (p_shown : Fn) : FE :=
    (callF 1 p_shown [] (consA (varF 1) nilA))
def b_shown (p_shown : Fn) : FS :=
    (seqS (ifS (isB (opF eqV (opF idxV (varF 0) (cstF (.int 0))) (cstF (.str ("num" : Str))))) (retS (cbF strV (consA (opF idxV (varF 0) (cstF (.int 1))) nilA))) nxS)
    (seqS (ifS (isB (opF eqV (opF idxV (varF 0) (cstF (.int 0))) (cstF (.str ("name" : Str))))) (retS (opF idxV (varF 0) (cstF (.int 1)))) nxS)
    (seqS (ifS (isB (opF eqV (opF idxV (varF 0) (cstF (.int 0))) (cstF (.str ("any" : Str))))) (retS (opF addV (cstF (.str ("?" : Str))) (opF idxV (varF 0) (cstF (.int 1))))) nxS)
    (retS (opF addV (opF addV (opF addV (opF idxV (varF 0) (cstF (.int 1))) (cstF (.str ("(" : Str)))) (bmF' "str" joinV (cstF (.str (", " : Str))) (consA (lcF (seqI (opF idxV (varF 0) (cstF (.int 2)))) [1] (nameG 1) yesT (b_shown_e1 p_shown)) nilA))) (cstF (.str (")" : Str))))))))
def F_shown : Nat → Fn
  | 0 => fn0
  | n + 1 => runFn 2 (b_shown (F_shown n))
end
end FL
end
section
set_option linter.all false
set_option maxRecDepth 100000
namespace FL
open PySem PySem.Spec PyProof.Rows L2
noncomputable section
def b_law_k07_s1 : FS :=
    (seqS (setS 7 (callF 2 F_L_asked [] (consA (varF 3) (consA (varF 4) nilA))))
    (ifS (isB (opF isNonV (opF idxV (varF 7) (cstF (.int 0))) (cstF .non))) (ifS (isB (opF neV (opF idxV (varF 7) (cstF (.int 1))) (tupF (consA (cstF (.bl true)) (consA (cstF (.bl true)) (consA (cstF (.bl false)) nilA)))))) (retS (cstF (.bl false))) nxS) (ifS (orT (isB (opF notNonV (opF idxV (varF 7) (cstF (.int 1))) (cstF .non))) (orT (isB (opF gtV (callF 3 (F_L_form 64) [] (consA (opF idxV (varF 7) (cstF (.int 0))) (consA (cstF (.int 1)) (consA (varF 4) nilA)))) (cstF (.int 120)))) (isB (opF neV (callF 1 (F_shown 64) [] (consA (opF idxV (varF 7) (cstF (.int 0))) nilA)) (varF 3))))) (retS (cstF (.bl false))) nxS)))
def b_law_k07_s2 : FS :=
    (setS 3 (opF addV (varF 3) (callF 3 F_L_piece [] (consA (callF 2 F_L_mixed [] (consA (varF 6) (consA (varF 5) nilA))) (consA (varF 5) (consA (opF modV (varF 1) (cstF (.int 4))) nilA))))))
def b_law_k07 : FS :=
    (seqS (setS 1 (callF 2 F_L_mixed [] (consA (callF 2 F_L_cell_at [] (consA (varF 0) (consA (cstF (.int 0)) nilA))) (consA (cstF (.int 107)) nilA))))
    (seqS (setS 2 (cstF (.int 80)))
    (seqS (ifS (isB (opF eqV (opF modV (opF fdivV (varF 1) (cstF (.int 4))) (cstF (.int 2))) (cstF (.int 1)))) (setS 2 (opF addV (cstF (.int 1)) (opF modV (opF fdivV (varF 1) (cstF (.int 8))) (cstF (.int 6))))) nxS)
    (seqS (setS 3 (cstF (.str ("" : Str))))
    (seqS (forS (enumI (consA (sliF (varF 0) noO (someO (varF 2))) nilA)) (tupG 2 (consG (nameG 5) (consG (nameG 6) nilG))) b_law_k07_s2)
    (seqS (forS (seqI (tupF (consA (cstF (.bl false)) (consA (cstF (.bl true)) nilA)))) (nameG 4) b_law_k07_s1)
    (retS (cstF (.bl true)))))))))
def F_law_k07 : Fn := runFn 8 b_law_k07
end
end FL
end
section
set_option linter.all false
set_option maxRecDepth 100000
namespace FL.Wk07
open PySem PySem.Spec PyProof.Rows L2 FL
def topS (i : Nat) : Stmt := PySem.Challenge.pw_samewise_k07_whole_any_text.main.body.getD i (.Pass ⟨0, 0, 0, 0⟩)
abbrev s_L_other : Stmt := topS 33
theorem sc_L_other : FnScope ["_law_e"] ["_law_e"] (defScope s_L_other) := ⟨rfl, rfl, rfl, by decide +kernel, rfl, by decide +kernel, by decide +kernel⟩
abbrev s_parts : Stmt := topS 12
theorem sc_parts : FnScope ["tree", "many", "arm"] ["tree"] (defScope s_parts) := ⟨rfl, rfl, rfl, by decide +kernel, rfl, by decide +kernel, by decide +kernel⟩
abbrev s_run_of : Stmt := topS 20
theorem sc_run_of : FnScope ["text", "at", "signs", "end"] ["text", "at", "signs"] (defScope s_run_of) := ⟨rfl, rfl, rfl, by decide +kernel, rfl, by decide +kernel, by decide +kernel⟩
abbrev s_number_at : Stmt := topS 22
theorem sc_number_at : FnScope ["text", "at", "below", "figures", "number"] ["text", "at"] (defScope s_number_at) := ⟨rfl, rfl, rfl, by decide +kernel, rfl, by decide +kernel, by decide +kernel⟩
abbrev s_is_word : Stmt := topS 11
theorem sc_is_word : FnScope ["text", "sign"] ["text"] (defScope s_is_word) := ⟨rfl, rfl, rfl, by decide +kernel, rfl, by decide +kernel, by decide +kernel⟩
abbrev s_word_at : Stmt := topS 21
theorem sc_word_at : FnScope ["text", "at", "word"] ["text", "at"] (defScope s_word_at) := ⟨rfl, rfl, rfl, by decide +kernel, rfl, by decide +kernel, by decide +kernel⟩
abbrev s_tree_at : Stmt := topS 24
theorem sc_tree_at : FnScope ["text", "at", "bare", "deep", "sign", "word"] ["text", "at", "bare", "deep"] (defScope s_tree_at) := ⟨rfl, rfl, rfl, by decide +kernel, rfl, by decide +kernel, by decide +kernel⟩
abbrev s_knot_at : Stmt := topS 23
theorem sc_knot_at : FnScope ["text", "at", "word", "bare", "deep", "arms", "arm"] ["text", "at", "word", "bare", "deep"] (defScope s_knot_at) := ⟨rfl, rfl, rfl, by decide +kernel, rfl, by decide +kernel, by decide +kernel⟩
abbrev s_whole_of : Stmt := topS 25
theorem sc_whole_of : FnScope ["text", "bare", "tree", "end"] ["text", "bare"] (defScope s_whole_of) := ⟨rfl, rfl, rfl, by decide +kernel, rfl, by decide +kernel, by decide +kernel⟩
abbrev s_read : Stmt := topS 26
theorem sc_read : FnScope ["text"] ["text"] (defScope s_read) := ⟨rfl, rfl, rfl, by decide +kernel, rfl, by decide +kernel, by decide +kernel⟩
abbrev s_read_pattern : Stmt := topS 27
theorem sc_read_pattern : FnScope ["text"] ["text"] (defScope s_read_pattern) := ⟨rfl, rfl, rfl, by decide +kernel, rfl, by decide +kernel, by decide +kernel⟩
abbrev s_L_asked : Stmt := topS 32
theorem sc_L_asked : FnScope ["_law_line", "_law_holed", "_law_found", "_law_refused", "_law_e"] ["_law_line", "_law_holed"] (defScope s_L_asked) := ⟨rfl, rfl, rfl, by decide +kernel, rfl, by decide +kernel, by decide +kernel⟩
abbrev s_L_cell_at : Stmt := topS 29
theorem sc_L_cell_at : FnScope ["_law_script", "_law_k"] ["_law_script", "_law_k"] (defScope s_L_cell_at) := ⟨rfl, rfl, rfl, by decide +kernel, rfl, by decide +kernel, by decide +kernel⟩
abbrev s_L_letters : Stmt := topS 36
theorem sc_L_letters : FnScope ["_law_word_here", "_law_sign"] ["_law_word_here"] (defScope s_L_letters) := ⟨rfl, rfl, rfl, by decide +kernel, rfl, by decide +kernel, by decide +kernel⟩
abbrev s_L_form : Stmt := topS 37
theorem sc_L_form : FnScope ["_law_tree", "_law_deep", "_law_holed", "_law_arm"] ["_law_tree", "_law_deep", "_law_holed"] (defScope s_L_form) := ⟨rfl, rfl, rfl, by decide +kernel, rfl, by decide +kernel, by decide +kernel⟩
abbrev s_L_mixed : Stmt := topS 30
theorem sc_L_mixed : FnScope ["_law_cell", "_law_k", "_law_m"] ["_law_cell", "_law_k"] (defScope s_L_mixed) := ⟨rfl, rfl, rfl, by decide +kernel, rfl, by decide +kernel, by decide +kernel⟩
abbrev s_L_figures : Stmt := topS 34
theorem sc_L_figures : FnScope ["_law_m", "_law_k"] ["_law_m", "_law_k"] (defScope s_L_figures) := ⟨rfl, rfl, rfl, by decide +kernel, rfl, by decide +kernel, by decide +kernel⟩
abbrev s_L_word : Stmt := topS 31
theorem sc_L_word : FnScope ["_law_m", "_law_signs", "_law_size", "_law_at", "_law_word_here"] ["_law_m"] (defScope s_L_word) := ⟨rfl, rfl, rfl, by decide +kernel, rfl, by decide +kernel, by decide +kernel⟩
abbrev s_L_piece : Stmt := topS 35
theorem sc_L_piece : FnScope ["_law_m", "_law_k", "_law_way", "_law_word_here", "_law_some", "_law_signs"] ["_law_m", "_law_k", "_law_way"] (defScope s_L_piece) := ⟨rfl, rfl, rfl, by decide +kernel, rfl, by decide +kernel, by decide +kernel⟩
abbrev s_shown : Stmt := topS 19
theorem sc_shown : FnScope ["tree", "arm"] ["tree"] (defScope s_shown) := ⟨rfl, rfl, rfl, by decide +kernel, rfl, by decide +kernel, by decide +kernel⟩
abbrev s_law_k07 : Stmt := topS 38
theorem sc_law_k07 : FnScope ["_law_script", "_law_first", "_law_many", "_law_line", "_law_holed", "_law_k", "_law_cell", "_law_told"] ["_law_script"] (defScope s_law_k07) := ⟨rfl, rfl, rfl, by decide +kernel, rfl, by decide +kernel, by decide +kernel⟩
structure Txt (K : PySem.W.Frag) (mg : Str → Option Value) where
  a_L_other : Addr
  d_L_other : FuncData
  h_L_other : L2.Fun K "_law_other" "_law_other" s_L_other a_L_other d_L_other
  b0_L_other : Binds K d_L_other ["_law_e"] []
  m_L_other : mg "_law_other" = some (.ref a_L_other)
  a_parts : Addr
  d_parts : FuncData
  h_parts : L2.Fun K "parts" "parts" s_parts a_parts d_parts
  b0_parts : Binds K d_parts ["tree"] []
  m_parts : mg "parts" = some (.ref a_parts)
  a_run_of : Addr
  d_run_of : FuncData
  h_run_of : L2.Fun K "run_of" "run_of" s_run_of a_run_of d_run_of
  b0_run_of : Binds K d_run_of ["text", "at", "signs"] []
  m_run_of : mg "run_of" = some (.ref a_run_of)
  a_number_at : Addr
  d_number_at : FuncData
  h_number_at : L2.Fun K "number_at" "number_at" s_number_at a_number_at d_number_at
  b0_number_at : Binds K d_number_at ["text", "at"] []
  m_number_at : mg "number_at" = some (.ref a_number_at)
  a_is_word : Addr
  d_is_word : FuncData
  h_is_word : L2.Fun K "is_word" "is_word" s_is_word a_is_word d_is_word
  b0_is_word : Binds K d_is_word ["text"] []
  m_is_word : mg "is_word" = some (.ref a_is_word)
  a_word_at : Addr
  d_word_at : FuncData
  h_word_at : L2.Fun K "word_at" "word_at" s_word_at a_word_at d_word_at
  b0_word_at : Binds K d_word_at ["text", "at"] []
  m_word_at : mg "word_at" = some (.ref a_word_at)
  a_tree_at : Addr
  d_tree_at : FuncData
  h_tree_at : L2.Fun K "tree_at" "tree_at" s_tree_at a_tree_at d_tree_at
  b0_tree_at : Binds K d_tree_at ["text", "at", "bare", "deep"] []
  m_tree_at : mg "tree_at" = some (.ref a_tree_at)
  a_knot_at : Addr
  d_knot_at : FuncData
  h_knot_at : L2.Fun K "knot_at" "knot_at" s_knot_at a_knot_at d_knot_at
  b0_knot_at : Binds K d_knot_at ["text", "at", "word", "bare", "deep"] []
  m_knot_at : mg "knot_at" = some (.ref a_knot_at)
  a_whole_of : Addr
  d_whole_of : FuncData
  h_whole_of : L2.Fun K "whole_of" "whole_of" s_whole_of a_whole_of d_whole_of
  b0_whole_of : Binds K d_whole_of ["text", "bare"] []
  m_whole_of : mg "whole_of" = some (.ref a_whole_of)
  a_read : Addr
  d_read : FuncData
  h_read : L2.Fun K "read" "read" s_read a_read d_read
  b0_read : Binds K d_read ["text"] []
  m_read : mg "read" = some (.ref a_read)
  a_read_pattern : Addr
  d_read_pattern : FuncData
  h_read_pattern : L2.Fun K "read_pattern" "read_pattern" s_read_pattern a_read_pattern d_read_pattern
  b0_read_pattern : Binds K d_read_pattern ["text"] []
  m_read_pattern : mg "read_pattern" = some (.ref a_read_pattern)
  a_L_asked : Addr
  d_L_asked : FuncData
  h_L_asked : L2.Fun K "_law_asked" "_law_asked" s_L_asked a_L_asked d_L_asked
  b0_L_asked : Binds K d_L_asked ["_law_line", "_law_holed"] []
  m_L_asked : mg "_law_asked" = some (.ref a_L_asked)
  a_L_cell_at : Addr
  d_L_cell_at : FuncData
  h_L_cell_at : L2.Fun K "_law_cell_at" "_law_cell_at" s_L_cell_at a_L_cell_at d_L_cell_at
  b0_L_cell_at : Binds K d_L_cell_at ["_law_script", "_law_k"] []
  m_L_cell_at : mg "_law_cell_at" = some (.ref a_L_cell_at)
  a_L_letters : Addr
  d_L_letters : FuncData
  h_L_letters : L2.Fun K "_law_letters" "_law_letters" s_L_letters a_L_letters d_L_letters
  b0_L_letters : Binds K d_L_letters ["_law_word_here"] []
  m_L_letters : mg "_law_letters" = some (.ref a_L_letters)
  a_L_form : Addr
  d_L_form : FuncData
  h_L_form : L2.Fun K "_law_form" "_law_form" s_L_form a_L_form d_L_form
  b0_L_form : Binds K d_L_form ["_law_tree", "_law_deep", "_law_holed"] []
  m_L_form : mg "_law_form" = some (.ref a_L_form)
  a_L_mixed : Addr
  d_L_mixed : FuncData
  h_L_mixed : L2.Fun K "_law_mixed" "_law_mixed" s_L_mixed a_L_mixed d_L_mixed
  b0_L_mixed : Binds K d_L_mixed ["_law_cell", "_law_k"] []
  m_L_mixed : mg "_law_mixed" = some (.ref a_L_mixed)
  a_L_figures : Addr
  d_L_figures : FuncData
  h_L_figures : L2.Fun K "_law_figures" "_law_figures" s_L_figures a_L_figures d_L_figures
  b0_L_figures : Binds K d_L_figures ["_law_m", "_law_k"] []
  m_L_figures : mg "_law_figures" = some (.ref a_L_figures)
  a_L_word : Addr
  d_L_word : FuncData
  h_L_word : L2.Fun K "_law_word" "_law_word" s_L_word a_L_word d_L_word
  b0_L_word : Binds K d_L_word ["_law_m"] []
  m_L_word : mg "_law_word" = some (.ref a_L_word)
  a_L_piece : Addr
  d_L_piece : FuncData
  h_L_piece : L2.Fun K "_law_piece" "_law_piece" s_L_piece a_L_piece d_L_piece
  b0_L_piece : Binds K d_L_piece ["_law_m", "_law_k", "_law_way"] []
  m_L_piece : mg "_law_piece" = some (.ref a_L_piece)
  a_shown : Addr
  d_shown : FuncData
  h_shown : L2.Fun K "shown" "shown" s_shown a_shown d_shown
  b0_shown : Binds K d_shown ["tree"] []
  m_shown : mg "shown" = some (.ref a_shown)
  a_law_k07 : Addr
  d_law_k07 : FuncData
  h_law_k07 : L2.Fun K "law" "law" s_law_k07 a_law_k07 d_law_k07
  b0_law_k07 : Binds K d_law_k07 ["_law_script"] []
  m_law_k07 : mg "law" = some (.ref a_law_k07)
  z_isinstance : mg "isinstance" = none
  z_len : mg "len" = none
  z_int : mg "int" = none
  z_tuple : mg "tuple" = none
  z_ValueError : mg "ValueError" = none
  z_sum : mg "sum" = none
  z_str : mg "str" = none
  z_bool : mg "bool" = none
  z_abs : mg "abs" = none
  z_enumerate : mg "enumerate" = none
  k_MOST_FIGURES : ∃ u w, mg "MOST_FIGURES" = some u ∧ RelV w u ∧ ∀ ca H m, VR K ca H m (.int 60) w
  k_FIGURES : ∃ u w, mg "FIGURES" = some u ∧ RelV w u ∧ ∀ ca H m, VR K ca H m (.str ("0123456789" : Str)) w
  k_LETTERS : ∃ u w, mg "LETTERS" = some u ∧ RelV w u ∧ ∀ ca H m, VR K ca H m (.str ("abcdefghijklmnopqrstuvwxyz" : Str)) w
  k_MOST_DEPTH : ∃ u w, mg "MOST_DEPTH" = some u ∧ RelV w u ∧ ∀ ca H m, VR K ca H m (.int 30) w
  k_MOST_ARMS : ∃ u w, mg "MOST_ARMS" = some u ∧ RelV w u ∧ ∀ ca H m, VR K ca H m (.int 4) w
  k_MOST_PARTS : ∃ u w, mg "MOST_PARTS" = some u ∧ RelV w u ∧ ∀ ca H m, VR K ca H m (.int 120) w
  c_Apart : Addr
  m_Apart : mg "Apart" = some (.ref c_Apart)
  c_TooBig : Addr
  m_TooBig : mg "TooBig" = some (.ref c_TooBig)
  c_TooWide : Addr
  m_TooWide : mg "TooWide" = some (.ref c_TooWide)
  c_NoRule : Addr
  m_NoRule : mg "NoRule" = some (.ref c_NoRule)
  c_NoRow : Addr
  m_NoRow : mg "NoRow" = some (.ref c_NoRow)
  c_Full : Addr
  m_Full : mg "Full" = some (.ref c_Full)
  c_NoTree : Addr
  m_NoTree : mg "NoTree" = some (.ref c_NoTree)
  c_SameError : Addr
  m_SameError : mg "SameError" = some (.ref c_SameError)
  xr1_NoTree : PySem.W.excIn K c_NoTree veB "ValueError.__new__" = true
  xr2_NoTree : PySem.W.keepIn K (.ref c_NoTree) = true
  xr3_NoTree : PySem.W.subIn K (.ref c_NoTree) (.type "BaseException") = some true
  xr4_NoTree : PySem.W.typeIn K (.ref c_NoTree) = some (.type "type")
  xx_NoTree : ExcC K c_NoTree
  xv_NoTree : PySem.W.kitOne K (.ref c_NoTree) (.type "ValueError") = some true
  xk_NoTree_SameError : PySem.W.kitOne K (.ref c_NoTree) (.ref c_SameError) = some true
  xm_NoTree_SameError : PySem.W.exmOne K (.ref c_NoTree) (.ref c_SameError) = some true
  xk_NoTree_NoTree : PySem.W.kitOne K (.ref c_NoTree) (.ref c_NoTree) = some true
  xm_NoTree_NoTree : PySem.W.exmOne K (.ref c_NoTree) (.ref c_NoTree) = some true
  xk_NoTree_NoRule : PySem.W.kitOne K (.ref c_NoTree) (.ref c_NoRule) = some false
  xm_NoTree_NoRule : PySem.W.exmOne K (.ref c_NoTree) (.ref c_NoRule) = some false
  xk_NoTree_NoRow : PySem.W.kitOne K (.ref c_NoTree) (.ref c_NoRow) = some false
  xm_NoTree_NoRow : PySem.W.exmOne K (.ref c_NoTree) (.ref c_NoRow) = some false
  xk_NoTree_Full : PySem.W.kitOne K (.ref c_NoTree) (.ref c_Full) = some false
  xm_NoTree_Full : PySem.W.exmOne K (.ref c_NoTree) (.ref c_Full) = some false
  xk_NoTree_Apart : PySem.W.kitOne K (.ref c_NoTree) (.ref c_Apart) = some false
  xm_NoTree_Apart : PySem.W.exmOne K (.ref c_NoTree) (.ref c_Apart) = some false
  xk_NoTree_TooBig : PySem.W.kitOne K (.ref c_NoTree) (.ref c_TooBig) = some false
  xm_NoTree_TooBig : PySem.W.exmOne K (.ref c_NoTree) (.ref c_TooBig) = some false
  xk_NoTree_TooWide : PySem.W.kitOne K (.ref c_NoTree) (.ref c_TooWide) = some false
  xm_NoTree_TooWide : PySem.W.exmOne K (.ref c_NoTree) (.ref c_TooWide) = some false
section
variable {P : Program} {w : World} {K : PySem.W.Frag} {mg : Str → Option Value} {base : Heap}
def Txt.ca (T : Txt K mg) (w : World) : Ca := ⟨fun n => if n = "Apart" then T.c_Apart else if n = "TooBig" then T.c_TooBig else if n = "TooWide" then T.c_TooWide else if n = "NoRule" then T.c_NoRule else if n = "NoRow" then T.c_NoRow else if n = "Full" then T.c_Full else if n = "NoTree" then T.c_NoTree else if n = "SameError" then T.c_SameError else 0, w, none⟩
theorem Txt.ca_Apart (T : Txt K mg) : (T.ca w) "Apart" = T.c_Apart := by unfold Txt.ca; simp
theorem Txt.ca_TooBig (T : Txt K mg) : (T.ca w) "TooBig" = T.c_TooBig := by unfold Txt.ca; simp
theorem Txt.ca_TooWide (T : Txt K mg) : (T.ca w) "TooWide" = T.c_TooWide := by unfold Txt.ca; simp
theorem Txt.ca_NoRule (T : Txt K mg) : (T.ca w) "NoRule" = T.c_NoRule := by unfold Txt.ca; simp
theorem Txt.ca_NoRow (T : Txt K mg) : (T.ca w) "NoRow" = T.c_NoRow := by unfold Txt.ca; simp
theorem Txt.ca_Full (T : Txt K mg) : (T.ca w) "Full" = T.c_Full := by unfold Txt.ca; simp
theorem Txt.ca_NoTree (T : Txt K mg) : (T.ca w) "NoTree" = T.c_NoTree := by unfold Txt.ca; simp
theorem Txt.ca_SameError (T : Txt K mg) : (T.ca w) "SameError" = T.c_SameError := by unfold Txt.ca; simp
theorem Txt.mc_Apart (T : Txt K mg) : mg "Apart" = some (.ref ((T.ca w) "Apart")) := by rw [T.ca_Apart]; exact T.m_Apart
theorem Txt.mc_TooBig (T : Txt K mg) : mg "TooBig" = some (.ref ((T.ca w) "TooBig")) := by rw [T.ca_TooBig]; exact T.m_TooBig
theorem Txt.mc_TooWide (T : Txt K mg) : mg "TooWide" = some (.ref ((T.ca w) "TooWide")) := by rw [T.ca_TooWide]; exact T.m_TooWide
theorem Txt.mc_NoRule (T : Txt K mg) : mg "NoRule" = some (.ref ((T.ca w) "NoRule")) := by rw [T.ca_NoRule]; exact T.m_NoRule
theorem Txt.mc_NoRow (T : Txt K mg) : mg "NoRow" = some (.ref ((T.ca w) "NoRow")) := by rw [T.ca_NoRow]; exact T.m_NoRow
theorem Txt.mc_Full (T : Txt K mg) : mg "Full" = some (.ref ((T.ca w) "Full")) := by rw [T.ca_Full]; exact T.m_Full
theorem Txt.mc_NoTree (T : Txt K mg) : mg "NoTree" = some (.ref ((T.ca w) "NoTree")) := by rw [T.ca_NoTree]; exact T.m_NoTree
theorem Txt.mc_SameError (T : Txt K mg) : mg "SameError" = some (.ref ((T.ca w) "SameError")) := by rw [T.ca_SameError]; exact T.m_SameError
theorem Txt.r1_NoTree (T : Txt K mg) : PySem.W.excIn K ((T.ca w) "NoTree") veB "ValueError.__new__" = true := by rw [T.ca_NoTree]; exact T.xr1_NoTree
theorem Txt.r2_NoTree (T : Txt K mg) : PySem.W.keepIn K (.ref ((T.ca w) "NoTree")) = true := by rw [T.ca_NoTree]; exact T.xr2_NoTree
theorem Txt.r3_NoTree (T : Txt K mg) : PySem.W.subIn K (.ref ((T.ca w) "NoTree")) (.type "BaseException") = some true := by rw [T.ca_NoTree]; exact T.xr3_NoTree
theorem Txt.r4_NoTree (T : Txt K mg) : PySem.W.typeIn K (.ref ((T.ca w) "NoTree")) = some (.type "type") := by rw [T.ca_NoTree]; exact T.xr4_NoTree
theorem Txt.xf (T : Txt K mg) : XFacts K (T.ca w) (["NoTree"], ["SameError", "NoTree", "NoRule", "NoRow", "Full", "Apart", "TooBig", "TooWide"]) := ⟨(fa_cons (by rw [T.ca_NoTree]; exact T.xx_NoTree) fa_nil), (fa_cons (fa_cons (by rw [show isEx "NoTree" "SameError" = true by decide, T.ca_NoTree, T.ca_SameError]; exact T.xk_NoTree_SameError) (fa_cons (by rw [show isEx "NoTree" "NoTree" = true by decide, T.ca_NoTree]; exact T.xk_NoTree_NoTree) (fa_cons (by rw [show isEx "NoTree" "NoRule" = false by decide, T.ca_NoTree, T.ca_NoRule]; exact T.xk_NoTree_NoRule) (fa_cons (by rw [show isEx "NoTree" "NoRow" = false by decide, T.ca_NoTree, T.ca_NoRow]; exact T.xk_NoTree_NoRow) (fa_cons (by rw [show isEx "NoTree" "Full" = false by decide, T.ca_NoTree, T.ca_Full]; exact T.xk_NoTree_Full) (fa_cons (by rw [show isEx "NoTree" "Apart" = false by decide, T.ca_NoTree, T.ca_Apart]; exact T.xk_NoTree_Apart) (fa_cons (by rw [show isEx "NoTree" "TooBig" = false by decide, T.ca_NoTree, T.ca_TooBig]; exact T.xk_NoTree_TooBig) (fa_cons (by rw [show isEx "NoTree" "TooWide" = false by decide, T.ca_NoTree, T.ca_TooWide]; exact T.xk_NoTree_TooWide) fa_nil)))))))) fa_nil), (fa_cons (by rw [T.ca_NoTree]; exact T.xv_NoTree) fa_nil), (fa_cons (fa_cons (by rw [show isEx "NoTree" "SameError" = true by decide, T.ca_NoTree, T.ca_SameError]; exact T.xm_NoTree_SameError) (fa_cons (by rw [show isEx "NoTree" "NoTree" = true by decide, T.ca_NoTree]; exact T.xm_NoTree_NoTree) (fa_cons (by rw [show isEx "NoTree" "NoRule" = false by decide, T.ca_NoTree, T.ca_NoRule]; exact T.xm_NoTree_NoRule) (fa_cons (by rw [show isEx "NoTree" "NoRow" = false by decide, T.ca_NoTree, T.ca_NoRow]; exact T.xm_NoTree_NoRow) (fa_cons (by rw [show isEx "NoTree" "Full" = false by decide, T.ca_NoTree, T.ca_Full]; exact T.xm_NoTree_Full) (fa_cons (by rw [show isEx "NoTree" "Apart" = false by decide, T.ca_NoTree, T.ca_Apart]; exact T.xm_NoTree_Apart) (fa_cons (by rw [show isEx "NoTree" "TooBig" = false by decide, T.ca_NoTree, T.ca_TooBig]; exact T.xm_NoTree_TooBig) (fa_cons (by rw [show isEx "NoTree" "TooWide" = false by decide, T.ca_NoTree, T.ca_TooWide]; exact T.xm_NoTree_TooWide) fa_nil)))))))) fa_nil)⟩
theorem Txt.b_L_other (T : Txt K mg) : Bnd K (T.ca w) T.d_L_other ["_law_e"] [] := Bnd.nil T.b0_L_other
theorem Txt.b_parts (T : Txt K mg) : Bnd K (T.ca w) T.d_parts ["tree"] [] := Bnd.nil T.b0_parts
theorem Txt.b_run_of (T : Txt K mg) : Bnd K (T.ca w) T.d_run_of ["text", "at", "signs"] [] := Bnd.nil T.b0_run_of
theorem Txt.b_number_at (T : Txt K mg) : Bnd K (T.ca w) T.d_number_at ["text", "at"] [] := Bnd.nil T.b0_number_at
theorem Txt.b_is_word (T : Txt K mg) : Bnd K (T.ca w) T.d_is_word ["text"] [] := Bnd.nil T.b0_is_word
theorem Txt.b_word_at (T : Txt K mg) : Bnd K (T.ca w) T.d_word_at ["text", "at"] [] := Bnd.nil T.b0_word_at
theorem Txt.b_tree_at (T : Txt K mg) : Bnd K (T.ca w) T.d_tree_at ["text", "at", "bare", "deep"] [] := Bnd.nil T.b0_tree_at
theorem Txt.b_knot_at (T : Txt K mg) : Bnd K (T.ca w) T.d_knot_at ["text", "at", "word", "bare", "deep"] [] := Bnd.nil T.b0_knot_at
theorem Txt.b_whole_of (T : Txt K mg) : Bnd K (T.ca w) T.d_whole_of ["text", "bare"] [] := Bnd.nil T.b0_whole_of
theorem Txt.b_read (T : Txt K mg) : Bnd K (T.ca w) T.d_read ["text"] [] := Bnd.nil T.b0_read
theorem Txt.b_read_pattern (T : Txt K mg) : Bnd K (T.ca w) T.d_read_pattern ["text"] [] := Bnd.nil T.b0_read_pattern
theorem Txt.b_L_asked (T : Txt K mg) : Bnd K (T.ca w) T.d_L_asked ["_law_line", "_law_holed"] [] := Bnd.nil T.b0_L_asked
theorem Txt.b_L_cell_at (T : Txt K mg) : Bnd K (T.ca w) T.d_L_cell_at ["_law_script", "_law_k"] [] := Bnd.nil T.b0_L_cell_at
theorem Txt.b_L_letters (T : Txt K mg) : Bnd K (T.ca w) T.d_L_letters ["_law_word_here"] [] := Bnd.nil T.b0_L_letters
theorem Txt.b_L_form (T : Txt K mg) : Bnd K (T.ca w) T.d_L_form ["_law_tree", "_law_deep", "_law_holed"] [] := Bnd.nil T.b0_L_form
theorem Txt.b_L_mixed (T : Txt K mg) : Bnd K (T.ca w) T.d_L_mixed ["_law_cell", "_law_k"] [] := Bnd.nil T.b0_L_mixed
theorem Txt.b_L_figures (T : Txt K mg) : Bnd K (T.ca w) T.d_L_figures ["_law_m", "_law_k"] [] := Bnd.nil T.b0_L_figures
theorem Txt.b_L_word (T : Txt K mg) : Bnd K (T.ca w) T.d_L_word ["_law_m"] [] := Bnd.nil T.b0_L_word
theorem Txt.b_L_piece (T : Txt K mg) : Bnd K (T.ca w) T.d_L_piece ["_law_m", "_law_k", "_law_way"] [] := Bnd.nil T.b0_L_piece
theorem Txt.b_shown (T : Txt K mg) : Bnd K (T.ca w) T.d_shown ["tree"] [] := Bnd.nil T.b0_shown
theorem Txt.b_law_k07 (T : Txt K mg) : Bnd K (T.ca w) T.d_law_k07 ["_law_script"] [] := Bnd.nil T.b0_law_k07
theorem c_L_other (T : Txt K mg) : CalX P w K mg base (T.ca w) 1 T.a_L_other T.d_L_other ["_law_e"] F_L_other :=
  cal_mkX (k := 0) (body := b_L_other) T.h_L_other sc_L_other rfl fun cdv A outer s H E p c hz hf hr tk =>
    (jss_cons (js_if (JW.jt (jw_or (jt_tru (je_callB (cb_isE (T.xf.at _ _) (Pinned.one List.mem_cons_self hz hf)) T.z_isinstance (by decide +kernel) (ja_cons (je_v 0) (ja_cons (je_globC T.m_NoRule (T.ca_NoRule (w := w)) (by rfl)) ja_nil)))) (jw_or (jt_tru (je_callB (cb_isE (T.xf.at _ _) (Pinned.one List.mem_cons_self hz hf)) T.z_isinstance (by decide +kernel) (ja_cons (je_v 0) (ja_cons (je_globC T.m_NoRow (T.ca_NoRow (w := w)) (by rfl)) ja_nil)))) (jw_or1 (jt_tru (je_callB (cb_isE (T.xf.at _ _) (Pinned.one List.mem_cons_self hz hf)) T.z_isinstance (by decide +kernel) (ja_cons (je_v 0) (ja_cons (je_globC T.m_Full (T.ca_Full (w := w)) (by rfl)) ja_nil)))))))) (jss_one (js_ret je_bl)) jss_nil)
      (jss_one (js_ret (je_or (je_callB (cb_isE (T.xf.at _ _) (Pinned.one List.mem_cons_self hz hf)) T.z_isinstance (by decide +kernel) (ja_cons (je_v 0) (ja_cons (je_globC T.m_Apart (T.ca_Apart (w := w)) (by rfl)) ja_nil))) (je_or (je_callB (cb_isE (T.xf.at _ _) (Pinned.one List.mem_cons_self hz hf)) T.z_isinstance (by decide +kernel) (ja_cons (je_v 0) (ja_cons (je_globC T.m_TooBig (T.ca_TooBig (w := w)) (by rfl)) ja_nil))) (je_one (je_callB (cb_isE (T.xf.at _ _) (Pinned.one List.mem_cons_self hz hf)) T.z_isinstance (by decide +kernel) (ja_cons (je_v 0) (ja_cons (je_globC T.m_TooWide (T.ca_TooWide (w := w)) (by rfl)) ja_nil)))))))))
theorem c_parts (T : Txt K mg) : ∀ n, Cal P w K mg base (T.ca w) (0 + n) T.a_parts T.d_parts ["tree"] (F_parts n)
  | 0 => Cal.mono (cal_0 T.h_parts.kp) (Nat.zero_le _)
  | n + 1 =>
    have C_parts := c_parts T n
    cal_mk (k := 0 + n) (body := b_parts (F_parts n)) T.h_parts sc_parts rfl fun cdv A outer s H E hr tk hp =>
    (jss_cons (js_set (i := 1) sc_parts.nd je_int)
      (jss_cons (js_if (jt_cmp (of_eq (hu64 hr)) (je_ix ix_any (je_v 0) je_int) je_str (nomark _)) (jss_one (js_for hp rfl (ji_seq (je_ix ix_any (je_v 0) je_int)) (jg_name (i := 2) sc_parts.nd) (jss_one (js_aug (i := 1) sc_parts.nd of_iadd (je_call tk C_parts T.b_parts hr T.m_parts (ja_cons (je_v 2) ja_nil)))))) jss_nil)
      (jss_one (js_ret (je_v 1)))))
theorem c_run_of (T : Txt K mg) : Cal P w K mg base (T.ca w) 1 T.a_run_of T.d_run_of ["text", "at", "signs"] F_run_of :=
  cal_mk (k := 0) (body := b_run_of) T.h_run_of sc_run_of rfl fun cdv A outer s H E hr tk hp =>
    (jss_cons (js_set (i := 3) sc_run_of.nd (je_v 1))
      (jss_cons (js_while hp (JW.jt (jw_and (jt_cmp of_lt (je_v 3) (je_callB cb_len T.z_len (by decide +kernel) (ja_cons (je_v 0) ja_nil)) (nomark _)) (jw_and1 (jt_cmp (of_in (hu65 hr)) (je_ix ix_any (je_v 0) (je_v 3)) (je_v 2) (by rfl))))) (jss_one (js_aug (i := 3) sc_run_of.nd of_iadd je_int)))
      (jss_one (js_ret (je_sl (je_v 0) (jo_some (je_v 1)) (jo_some (je_v 3)))))))
theorem c_number_at (T : Txt K mg) : Cal P w K mg base (T.ca w) 2 T.a_number_at T.d_number_at ["text", "at"] F_number_at :=
  cal_mk (k := 1) (body := b_number_at) T.h_number_at sc_number_at rfl fun cdv A outer s H E hr tk hp =>
    (jss_cons (js_set (i := 2) sc_number_at.nd (je_bm PySem.F.plainAttrs_str PySem.F.slot_str_startswith PySem.F.type_str_startswith bm_starts3 (je_v 0) (ja_cons je_str (ja_cons (je_v 1) ja_nil))))
      (jss_cons (js_if (jt_tru (je_v 2)) (jss_one (js_aug (i := 1) sc_number_at.nd of_iadd je_int)) jss_nil)
      (jss_cons (js_set (i := 3) sc_number_at.nd (je_call tk (c_run_of T) T.b_run_of (hr.mono (by omega)) T.m_run_of (ja_cons (je_v 0) (ja_cons (je_v 1) (ja_cons (je_globE T.k_FIGURES (by rfl)) ja_nil)))))
      (jss_cons (js_if (jt_not (jt_ch of_le of_le je_int (je_callB cb_len T.z_len (by decide +kernel) (ja_cons (je_v 3) ja_nil)) (je_globE T.k_MOST_FIGURES (by rfl)))) (jss_one (js_raise PySem.F.excBase_ValueError T.r1_NoTree T.mc_NoTree T.r2_NoTree T.r3_NoTree T.r4_NoTree tk)) jss_nil)
      (jss_cons (js_if (JW.jt (jw_and (jt_cmp (of_eq (hu64 hr)) (je_ix ix_any (je_v 3) je_int) je_str (nomark _)) (jw_and1 (JW.jt (jw_or (jt_tru (je_v 2)) (jw_or1 (jt_cmp of_gt (je_callB cb_len T.z_len (by decide +kernel) (ja_cons (je_v 3) ja_nil)) je_int (nomark _)))))))) (jss_one (js_raise PySem.F.excBase_ValueError T.r1_NoTree T.mc_NoTree T.r2_NoTree T.r3_NoTree T.r4_NoTree tk)) jss_nil)
      (jss_cons (js_set (i := 4) sc_number_at.nd (je_callTy cb_int T.z_int (by decide +kernel) (ja_cons (je_v 3) ja_nil)))
      (jss_cons (js_if (jt_tru (je_v 2)) (jss_one (js_set (i := 4) sc_number_at.nd (je_un of_neg (je_v 4)))) jss_nil)
      (jss_one (js_ret (je_tup (ja_cons (je_tup (ja_cons je_str (ja_cons (je_v 4) ja_nil))) (ja_cons (je_op of_add (je_v 1) (je_callB cb_len T.z_len (by decide +kernel) (ja_cons (je_v 3) ja_nil))) ja_nil))))))))))))
theorem c_is_word (T : Txt K mg) : Cal P w K mg base (T.ca w) 1 T.a_is_word T.d_is_word ["text"] F_is_word :=
  cal_mk (k := 0) (body := b_is_word) T.h_is_word sc_is_word rfl fun cdv A outer s H E hr tk hp =>
    (jss_cons (js_if (jt_not (jt_ch of_le of_le je_int (je_callB cb_len T.z_len (by decide +kernel) (ja_cons (je_v 0) ja_nil)) je_int)) (jss_one (js_ret je_bl)) jss_nil)
      (jss_cons (js_for hp rfl (ji_str (je_v 0)) (jg_name (i := 1) sc_is_word.nd) (jss_one (js_if (jt_cmp (of_nin (hu65 hr)) (je_v 1) (je_globE T.k_LETTERS (by rfl)) (by rfl)) (jss_one (js_ret je_bl)) jss_nil)))
      (jss_one (js_ret je_bl))))
theorem c_word_at (T : Txt K mg) : Cal P w K mg base (T.ca w) 2 T.a_word_at T.d_word_at ["text", "at"] F_word_at :=
  cal_mk (k := 1) (body := b_word_at) T.h_word_at sc_word_at rfl fun cdv A outer s H E hr tk hp =>
    (jss_cons (js_set (i := 2) sc_word_at.nd (je_call tk (c_run_of T) T.b_run_of (hr.mono (by omega)) T.m_run_of (ja_cons (je_v 0) (ja_cons (je_v 1) (ja_cons (je_globE T.k_LETTERS (by rfl)) ja_nil)))))
      (jss_cons (js_if (jt_not (jt_tru (je_call tk (c_is_word T) T.b_is_word (hr.mono (by omega)) T.m_is_word (ja_cons (je_v 2) ja_nil)))) (jss_one (js_raise PySem.F.excBase_ValueError T.r1_NoTree T.mc_NoTree T.r2_NoTree T.r3_NoTree T.r4_NoTree tk)) jss_nil)
      (jss_one (js_ret (je_v 2)))))
theorem cc_tree_at_knot_at (T : Txt K mg) : ∀ n, Cal P w K mg base (T.ca w) (2 + n) T.a_tree_at T.d_tree_at ["text", "at", "bare", "deep"] (F_tree_at n) ∧ Cal P w K mg base (T.ca w) (2 + n) T.a_knot_at T.d_knot_at ["text", "at", "word", "bare", "deep"] (F_knot_at n)
  | 0 => ⟨Cal.mono (cal_0 T.h_tree_at.kp) (Nat.zero_le _), Cal.mono (cal_0 T.h_knot_at.kp) (Nat.zero_le _)⟩
  | n + 1 => by
    obtain ⟨C_tree_at, C_knot_at⟩ := cc_tree_at_knot_at T n
    refine ⟨?_, ?_⟩
    · exact cal_mk (k := 2 + n) (body := b_tree_at (F_tree_at n) (F_knot_at n)) T.h_tree_at sc_tree_at rfl fun cdv A outer s H E hr tk hp =>
        (jss_cons (js_if (jt_cmp of_gt (je_v 3) (je_globE T.k_MOST_DEPTH (by rfl)) (nomark _)) (jss_one (js_raise PySem.F.excBase_ValueError T.r1_NoTree T.mc_NoTree T.r2_NoTree T.r3_NoTree T.r4_NoTree tk)) jss_nil)
      (jss_cons (js_set (i := 4) sc_tree_at.nd (je_sl (je_v 0) (jo_some (je_v 1)) (jo_some (je_op of_add (je_v 1) je_int))))
      (jss_cons (js_if (JW.jt (jw_and (jt_cmp (of_ne (hu64 hr)) (je_v 4) je_str (nomark _)) (jw_and1 (jt_cmp (of_in (hu65 hr)) (je_v 4) je_str (by rfl))))) (jss_one (js_ret (je_call tk (c_number_at T) T.b_number_at (hr.mono (by omega)) T.m_number_at (ja_cons (je_v 0) (ja_cons (je_v 1) ja_nil))))) jss_nil)
      (jss_cons (js_if (JW.jt (jw_and (jt_cmp (of_eq (hu64 hr)) (je_v 4) je_str (nomark _)) (jw_and1 (jt_not (jt_tru (je_v 2)))))) (jss_cons (js_set (i := 5) sc_tree_at.nd (je_call tk (c_word_at T) T.b_word_at (hr.mono (by omega)) T.m_word_at (ja_cons (je_v 0) (ja_cons (je_op of_add (je_v 1) je_int) ja_nil))))
      (jss_one (js_ret (je_tup (ja_cons (je_tup (ja_cons je_str (ja_cons (je_v 5) ja_nil))) (ja_cons (je_op of_add (je_op of_add (je_v 1) je_int) (je_callB cb_len T.z_len (by decide +kernel) (ja_cons (je_v 5) ja_nil))) ja_nil)))))) jss_nil)
      (jss_cons (js_set (i := 5) sc_tree_at.nd (je_call tk (c_word_at T) T.b_word_at (hr.mono (by omega)) T.m_word_at (ja_cons (je_v 0) (ja_cons (je_v 1) ja_nil))))
      (jss_cons (js_aug (i := 1) sc_tree_at.nd of_iadd (je_callB cb_len T.z_len (by decide +kernel) (ja_cons (je_v 5) ja_nil)))
      (jss_cons (js_if (jt_cmp (of_eq (hu64 hr)) (je_sl (je_v 0) (jo_some (je_v 1)) (jo_some (je_op of_add (je_v 1) je_int))) je_str (nomark _)) (jss_one (js_ret (je_call tk C_knot_at T.b_knot_at hr T.m_knot_at (ja_cons (je_v 0) (ja_cons (je_op of_add (je_v 1) je_int) (ja_cons (je_v 5) (ja_cons (je_v 2) (ja_cons (je_v 3) ja_nil)))))))) jss_nil)
      (jss_one (js_ret (je_tup (ja_cons (je_tup (ja_cons je_str (ja_cons (je_v 5) ja_nil))) (ja_cons (je_v 1) ja_nil))))))))))))
    · exact cal_mk (k := 2 + n) (body := b_knot_at (F_tree_at n) (F_knot_at n)) T.h_knot_at sc_knot_at rfl fun cdv A outer s H E hr tk hp =>
        (jss_cons (js_set (i := 5) sc_knot_at.nd (je_lst ja_nil))
      (jss_one (js_while hp (jt_tru je_bl) (jss_cons (js_asg (je_call tk C_tree_at T.b_tree_at hr T.m_tree_at (ja_cons (je_v 0) (ja_cons (je_v 1) (ja_cons (je_v 3) (ja_cons (je_op of_add (je_v 4) je_int) ja_nil))))) (jg_tup rfl (jgs_cons (jg_name (i := 6) sc_knot_at.nd) (jgs_cons (jg_name (i := 1) sc_knot_at.nd) jgs_nil))))
      (jss_cons (js_expr (je_bm PySem.F.plainAttrs_list PySem.F.slot_list_append PySem.F.type_list_append bm_append (je_v 5) (ja_cons (je_v 6) ja_nil)))
      (jss_cons (js_if (jt_cmp (of_eq (hu64 hr)) (je_sl (je_v 0) (jo_some (je_v 1)) (jo_some (je_op of_add (je_v 1) je_int))) je_str (nomark _)) (jss_one (js_ret (je_tup (ja_cons (je_tup (ja_cons je_str (ja_cons (je_v 2) (ja_cons (je_callTy cb_tuple T.z_tuple (by decide +kernel) (ja_cons (je_v 5) ja_nil)) ja_nil)))) (ja_cons (je_op of_add (je_v 1) je_int) ja_nil))))) jss_nil)
      (jss_cons (js_if (JW.jt (jw_or (jt_cmp (of_ne (hu64 hr)) (je_sl (je_v 0) (jo_some (je_v 1)) (jo_some (je_op of_add (je_v 1) je_int))) je_str (nomark _)) (jw_or1 (jt_cmp (of_eq (hu64 hr)) (je_callB cb_len T.z_len (by decide +kernel) (ja_cons (je_v 5) ja_nil)) (je_globE T.k_MOST_ARMS (by rfl)) (nomark _))))) (jss_one (js_raise PySem.F.excBase_ValueError T.r1_NoTree T.mc_NoTree T.r2_NoTree T.r3_NoTree T.r4_NoTree tk)) jss_nil)
      (jss_one (js_aug (i := 1) sc_knot_at.nd of_iadd je_int)))))))))
theorem c_tree_at (T : Txt K mg) (n : Nat) : Cal P w K mg base (T.ca w) (2 + n) T.a_tree_at T.d_tree_at ["text", "at", "bare", "deep"] (F_tree_at n) := (cc_tree_at_knot_at T n).1
theorem c_knot_at (T : Txt K mg) (n : Nat) : Cal P w K mg base (T.ca w) (2 + n) T.a_knot_at T.d_knot_at ["text", "at", "word", "bare", "deep"] (F_knot_at n) := (cc_tree_at_knot_at T n).2
theorem c_whole_of (T : Txt K mg) : Cal P w K mg base (T.ca w) 67 T.a_whole_of T.d_whole_of ["text", "bare"] F_whole_of :=
  cal_mk (k := 66) (body := b_whole_of) T.h_whole_of sc_whole_of rfl fun cdv A outer s H E hr tk hp =>
    (jss_cons (js_asg (je_call tk (c_tree_at T 64) T.b_tree_at (hr.mono (by omega)) T.m_tree_at (ja_cons (je_v 0) (ja_cons je_int (ja_cons (je_v 1) (ja_cons je_int ja_nil))))) (jg_tup rfl (jgs_cons (jg_name (i := 2) sc_whole_of.nd) (jgs_cons (jg_name (i := 3) sc_whole_of.nd) jgs_nil))))
      (jss_cons (js_if (JW.jt (jw_or (jt_cmp (of_ne (hu64 hr)) (je_v 3) (je_callB cb_len T.z_len (by decide +kernel) (ja_cons (je_v 0) ja_nil)) (nomark _)) (jw_or1 (jt_cmp of_gt (je_call tk (c_parts T 64) T.b_parts (hr.mono (by omega)) T.m_parts (ja_cons (je_v 2) ja_nil)) (je_globE T.k_MOST_PARTS (by rfl)) (nomark _))))) (jss_one (js_raise PySem.F.excBase_ValueError T.r1_NoTree T.mc_NoTree T.r2_NoTree T.r3_NoTree T.r4_NoTree tk)) jss_nil)
      (jss_one (js_ret (je_v 2)))))
theorem c_read (T : Txt K mg) : Cal P w K mg base (T.ca w) 68 T.a_read T.d_read ["text"] F_read :=
  cal_mk (k := 67) (body := b_read) T.h_read sc_read rfl fun cdv A outer s H E hr tk hp =>
    (jss_one (js_ret (je_call tk (c_whole_of T) T.b_whole_of (hr.mono (by omega)) T.m_whole_of (ja_cons (je_v 0) (ja_cons je_bl ja_nil)))))
theorem c_read_pattern (T : Txt K mg) : Cal P w K mg base (T.ca w) 68 T.a_read_pattern T.d_read_pattern ["text"] F_read_pattern :=
  cal_mk (k := 67) (body := b_read_pattern) T.h_read_pattern sc_read_pattern rfl fun cdv A outer s H E hr tk hp =>
    (jss_one (js_ret (je_call tk (c_whole_of T) T.b_whole_of (hr.mono (by omega)) T.m_whole_of (ja_cons (je_v 0) (ja_cons je_bl ja_nil)))))
theorem c_L_asked (T : Txt K mg) : Cal P w K mg base (T.ca w) 69 T.a_L_asked T.d_L_asked ["_law_line", "_law_holed"] F_L_asked :=
  cal_mk (k := 68) (body := b_L_asked) T.h_L_asked sc_L_asked rfl fun cdv A outer s H E hr tk hp =>
    (jss_cons (js_set (i := 2) sc_L_asked.nd je_non)
      (jss_cons (js_set (i := 3) sc_L_asked.nd je_non)
      (jss_cons (js_tryAs T.xf (by decide) (by decide) rfl rfl sc_L_asked.nd T.mc_SameError tk (fun W pn xe tk hp =>
        (jss_one (js_if (jt_tru (je_v 1)) (jss_one (js_set (i := 2) sc_L_asked.nd (je_call tk (c_read_pattern T) T.b_read_pattern (hr.mono (by omega)) T.m_read_pattern (ja_cons (je_v 0) ja_nil)))) (jss_one (js_set (i := 2) sc_L_asked.nd (je_call tk (c_read T) T.b_read (hr.mono (by omega)) T.m_read (ja_cons (je_v 0) ja_nil))))))) (fun a oe c pn hz hf => jss_one (js_set (i := 3) sc_L_asked.nd (je_tup (ja_cons (je_callB (cb_isE (T.xf.at _ _) (Pinned.one List.mem_cons_self hz hf)) T.z_isinstance (by decide +kernel) (ja_cons (je_v 4) (ja_cons (je_globC T.m_NoTree (T.ca_NoTree (w := w)) (by rfl)) ja_nil))) (ja_cons (je_callB (cb_isE (T.xf.at _ _) (Pinned.one List.mem_cons_self hz hf)) T.z_isinstance (by decide +kernel) (ja_cons (je_v 4) (ja_cons (je_ty (by rfl) T.z_ValueError (by decide +kernel)) ja_nil))) (ja_cons (je_callX takes0 (c_L_other T) T.b0_L_other (L2H.RoomH.mono (j := 1) (rh_mark hr _) (by omega)) T.m_L_other List.mem_cons_self hz hf (ja_cons (je_v 4) ja_nil)) ja_nil)))))))
      (jss_one (js_ret (je_tup (ja_cons (je_v 2) (ja_cons (je_v 3) ja_nil))))))))
theorem c_L_cell_at (T : Txt K mg) : Cal P w K mg base (T.ca w) 1 T.a_L_cell_at T.d_L_cell_at ["_law_script", "_law_k"] F_L_cell_at :=
  cal_mk (k := 0) (body := b_L_cell_at) T.h_L_cell_at sc_L_cell_at rfl fun cdv A outer s H E hr tk hp =>
    (jss_cons (js_if (jt_cmp of_lt (je_v 1) (je_callB cb_len T.z_len (by decide +kernel) (ja_cons (je_v 0) ja_nil)) (nomark _)) (jss_one (js_ret (je_ix ix_any (je_v 0) (je_v 1)))) jss_nil)
      (jss_one (js_ret je_int)))
theorem c_L_letters (T : Txt K mg) : Cal P w K mg base (T.ca w) 1 T.a_L_letters T.d_L_letters ["_law_word_here"] F_L_letters :=
  cal_mk (k := 0) (body := b_L_letters) T.h_L_letters sc_L_letters rfl fun cdv A outer s H E hr tk hp =>
    (jss_cons (js_for hp rfl (ji_str (je_v 0)) (jg_name (i := 1) sc_L_letters.nd) (jss_one (js_if (jt_cmp (of_nin (hu65 hr)) (je_v 1) je_str (by rfl)) (jss_one (js_ret je_bl)) jss_nil)))
      (jss_one (js_ret (je_ch of_le of_le je_int (je_callB cb_len T.z_len (by decide +kernel) (ja_cons (je_v 0) ja_nil)) je_int))))
theorem c_L_form (T : Txt K mg) : ∀ n, Cal P w K mg base (T.ca w) (1 + n) T.a_L_form T.d_L_form ["_law_tree", "_law_deep", "_law_holed"] (F_L_form n)
  | 0 => Cal.mono (cal_0 T.h_L_form.kp) (Nat.zero_le _)
  | n + 1 =>
    have C_L_form := c_L_form T n
    cal_mk (k := 1 + n) (body := b_L_form (F_L_form n)) T.h_L_form sc_L_form rfl fun cdv A outer s H E hr tk hp =>
    (jss_cons (js_if (JW.jt (jw_or (jt_not (jt_tru (je_callB cb_isi T.z_isinstance (by decide +kernel) (ja_cons (je_v 0) (ja_cons (je_ty (by rfl) T.z_tuple (by decide +kernel)) ja_nil))))) (jw_or (jt_cmp of_lt (je_callB cb_len T.z_len (by decide +kernel) (ja_cons (je_v 0) ja_nil)) je_int (nomark _)) (jw_or1 (jt_cmp of_gt (je_v 1) je_int (nomark _)))))) (jss_one (js_ret je_int)) jss_nil)
      (jss_cons (js_if (JW.jt (jw_and (jt_cmp (of_eq (hu64 hr)) (je_ix ix_any (je_v 0) je_int) je_str (nomark _)) (jw_and (jt_cmp (of_eq (hu64 hr)) (je_callB cb_len T.z_len (by decide +kernel) (ja_cons (je_v 0) ja_nil)) je_int (nomark _)) (jw_and (jt_tru (je_callB cb_isi T.z_isinstance (by decide +kernel) (ja_cons (je_ix ix_any (je_v 0) je_int) (ja_cons (je_ty (by rfl) T.z_int (by decide +kernel)) ja_nil)))) (jw_and1 (jt_not (jt_tru (je_callB cb_isi T.z_isinstance (by decide +kernel) (ja_cons (je_ix ix_any (je_v 0) je_int) (ja_cons (je_ty (by rfl) T.z_bool (by decide +kernel)) ja_nil)))))))))) (jss_one (js_ret (je_op of_add je_int (je_op of_mul je_int (je_callTy cb_int T.z_int (by decide +kernel) (ja_cons (je_cmp of_ge (je_callB cb_abs T.z_abs (by decide +kernel) (ja_cons (je_ix ix_any (je_v 0) je_int) ja_nil)) (je_op of_pow je_int je_int) (nomark _)) ja_nil)))))) jss_nil)
      (jss_cons (js_if (JW.jt (jw_or (jt_not (jt_tru (je_callB cb_isi T.z_isinstance (by decide +kernel) (ja_cons (je_ix ix_any (je_v 0) je_int) (ja_cons (je_ty (by rfl) T.z_str (by decide +kernel)) ja_nil))))) (jw_or1 (jt_not (jt_tru (je_call tk (c_L_letters T) T.b_L_letters (hr.mono (by omega)) T.m_L_letters (ja_cons (je_ix ix_any (je_v 0) je_int) ja_nil))))))) (jss_one (js_ret je_int)) jss_nil)
      (jss_cons (js_if (JW.jt (jw_and (JW.jt (jw_or (jt_cmp (of_eq (hu64 hr)) (je_ix ix_any (je_v 0) je_int) je_str (nomark _)) (jw_or1 (JW.jt (jw_and (jt_cmp (of_eq (hu64 hr)) (je_ix ix_any (je_v 0) je_int) je_str (nomark _)) (jw_and1 (jt_tru (je_v 2)))))))) (jw_and1 (jt_cmp (of_eq (hu64 hr)) (je_callB cb_len T.z_len (by decide +kernel) (ja_cons (je_v 0) ja_nil)) je_int (nomark _))))) (jss_one (js_ret je_int)) jss_nil)
      (jss_cons (js_if (JW.jt (jw_or (jt_cmp (of_ne (hu64 hr)) (je_ix ix_any (je_v 0) je_int) je_str (nomark _)) (jw_or (jt_cmp (of_ne (hu64 hr)) (je_callB cb_len T.z_len (by decide +kernel) (ja_cons (je_v 0) ja_nil)) je_int (nomark _)) (jw_or (jt_not (jt_tru (je_callB cb_isi T.z_isinstance (by decide +kernel) (ja_cons (je_ix ix_any (je_v 0) je_int) (ja_cons (je_ty (by rfl) T.z_tuple (by decide +kernel)) ja_nil))))) (jw_or1 (jt_not (jt_ch of_le of_le je_int (je_callB cb_len T.z_len (by decide +kernel) (ja_cons (je_ix ix_any (je_v 0) je_int) ja_nil)) je_int))))))) (jss_one (js_ret je_int)) jss_nil)
      (jss_one (js_ret (je_op of_add je_int (je_callB (cb_sum rfl) T.z_sum (by decide +kernel) (ja_cons (je_lc (own := [(("_law_arm" : Str), 3)]) rfl sc_L_form.nd (ji_seq (je_ix ix_any (je_v 0) je_int)) (blkOk_by (own := [(("_law_arm" : Str), 3)]) (N := ["_law_tree", "_law_deep", "_law_holed", "_law_arm"]) (sc := defScope s_L_form) (by decide +kernel)) (by decide) (fun _ _ _ _ _ => (jg_name (i := 3) sc_L_form.nd)) (fun _ _ _ _ _ => jts_nil) (fun _ _ _ _ _ => (je_call takes0 C_L_form T.b_L_form hr T.m_L_form (ja_cons (je_v 3) (ja_cons (je_op of_add (je_v 1) je_int) (ja_cons (je_v 2) ja_nil)))))) ja_nil))))))))))
theorem c_L_mixed (T : Txt K mg) : Cal P w K mg base (T.ca w) 1 T.a_L_mixed T.d_L_mixed ["_law_cell", "_law_k"] F_L_mixed :=
  cal_mk (k := 0) (body := b_L_mixed) T.h_L_mixed sc_L_mixed rfl fun cdv A outer s H E hr tk hp =>
    (jss_cons (js_set (i := 2) sc_L_mixed.nd (je_op of_mod (je_op of_mul (je_op of_add (je_op of_mod (je_v 0) je_int) je_int) (je_op of_add je_int (je_op of_mul (je_op of_mul je_int (je_v 1)) (je_v 1)))) je_int))
      (jss_one (js_ret (je_op of_mod (je_op of_mul (je_v 2) (je_v 2)) je_int))))
theorem c_L_figures (T : Txt K mg) : Cal P w K mg base (T.ca w) 1 T.a_L_figures T.d_L_figures ["_law_m", "_law_k"] F_L_figures :=
  cal_mk (k := 0) (body := b_L_figures) T.h_L_figures sc_L_figures rfl fun cdv A outer s H E hr tk hp =>
    (jss_cons (js_if (jt_cmp (of_eq (hu64 hr)) (je_v 1) je_int (nomark _)) (jss_one (js_ret (je_ix ix_any (je_lst (ja_cons je_str (ja_cons je_str (ja_cons je_str (ja_cons je_str (ja_cons je_str (ja_cons (je_callTy cb_str T.z_str (by decide +kernel) (ja_cons (je_v 0) ja_nil)) ja_nil))))))) (je_op of_mod (je_op of_fdiv (je_v 0) je_int) je_int)))) jss_nil)
      (jss_one (js_ret (je_ix ix_any (je_lst (ja_cons je_str (ja_cons je_str (ja_cons je_str (ja_cons je_str (ja_cons (je_callTy cb_str T.z_str (by decide +kernel) (ja_cons (je_v 0) ja_nil)) (ja_cons (je_callTy cb_str T.z_str (by decide +kernel) (ja_cons (je_op of_pow (je_v 0) je_int) ja_nil)) ja_nil))))))) (je_op of_mod (je_op of_fdiv (je_v 0) je_int) je_int)))))
theorem c_L_word (T : Txt K mg) : Cal P w K mg base (T.ca w) 1 T.a_L_word T.d_L_word ["_law_m"] F_L_word :=
  cal_mk (k := 0) (body := b_L_word) T.h_L_word sc_L_word rfl fun cdv A outer s H E hr tk hp =>
    (jss_cons (js_set (i := 1) sc_L_word.nd je_str)
      (jss_cons (js_set (i := 2) sc_L_word.nd (je_op of_add je_int (je_op of_mod (je_v 0) je_int)))
      (jss_cons (js_set (i := 3) sc_L_word.nd (je_op of_mod (je_op of_fdiv (je_v 0) je_int) (je_v 2)))
      (jss_cons (js_set (i := 4) sc_L_word.nd (je_op of_mul (je_ix ix_any (je_v 1) (je_op of_mod (je_op of_fdiv (je_v 0) je_int) je_int)) (je_v 2)))
      (jss_one (js_ret (je_op of_add (je_op of_add (je_sl (je_v 4) jo_none (jo_some (je_v 3))) (je_ix ix_any (je_v 1) (je_op of_mod (je_op of_fdiv (je_v 0) je_int) je_int))) (je_sl (je_v 4) (jo_some (je_op of_add (je_v 3) je_int)) jo_none))))))))
theorem c_L_piece (T : Txt K mg) : Cal P w K mg base (T.ca w) 2 T.a_L_piece T.d_L_piece ["_law_m", "_law_k", "_law_way"] F_L_piece :=
  cal_mk (k := 1) (body := b_L_piece) T.h_L_piece sc_L_piece rfl fun cdv A outer s H E hr tk hp =>
    (jss_cons (js_set (i := 3) sc_L_piece.nd (je_call tk (c_L_word T) T.b_L_word (hr.mono (by omega)) T.m_L_word (ja_cons (je_op of_fdiv (je_v 0) je_int) ja_nil)))
      (jss_cons (js_set (i := 4) sc_L_piece.nd (je_lst (ja_cons (je_v 3) (ja_cons je_str (ja_cons (je_op of_add (je_v 3) je_str) (ja_cons je_str (ja_cons je_str (ja_cons (je_op of_add je_str (je_v 3)) (ja_cons je_str (ja_cons je_str ja_nil))))))))))
      (jss_cons (js_if (jt_cmp (of_eq (hu64 hr)) (je_v 2) je_int (nomark _)) (jss_one (js_ret (je_call tk (c_L_figures T) T.b_L_figures (hr.mono (by omega)) T.m_L_figures (ja_cons (je_v 0) (ja_cons (je_v 1) ja_nil))))) jss_nil)
      (jss_cons (js_if (JW.jt (jw_or (jt_cmp of_gt (je_v 2) je_int (nomark _)) (jw_or1 (jt_cmp of_gt (je_op of_mod (je_v 0) je_int) je_int (nomark _))))) (jss_cons (js_if (jt_cmp (of_ne (hu64 hr)) (je_v 2) je_int (nomark _)) (jss_one (js_set (i := 4) sc_L_piece.nd (je_op of_add (je_v 4) (je_lst (ja_cons je_str (ja_cons je_str (ja_cons je_str (ja_cons je_str (ja_cons je_str (ja_cons je_str (ja_cons (je_callTy cb_str T.z_str (by decide +kernel) (ja_cons (je_op of_pow (je_v 0) je_int) ja_nil)) (ja_cons je_str ja_nil)))))))))))) jss_nil)
      (jss_one (js_ret (je_ix ix_any (je_v 4) (je_op of_mod (je_op of_fdiv (je_v 0) je_int) (je_callB cb_len T.z_len (by decide +kernel) (ja_cons (je_v 4) ja_nil))))))) jss_nil)
      (jss_cons (js_set (i := 5) sc_L_piece.nd je_str)
      (jss_cons (js_set (i := 5) sc_L_piece.nd (je_op of_add (je_v 5) je_str))
      (jss_one (js_ret (je_ix ix_any (je_v 5) (je_op of_mod (je_op of_fdiv (je_v 0) je_int) (je_callB cb_len T.z_len (by decide +kernel) (ja_cons (je_v 5) ja_nil))))))))))))
theorem c_shown (T : Txt K mg) : ∀ n, Cal P w K mg base (T.ca w) (0 + n) T.a_shown T.d_shown ["tree"] (F_shown n)
  | 0 => Cal.mono (cal_0 T.h_shown.kp) (Nat.zero_le _)
  | n + 1 =>
    have C_shown := c_shown T n
    cal_mk (k := 0 + n) (body := b_shown (F_shown n)) T.h_shown sc_shown rfl fun cdv A outer s H E hr tk hp =>
    (jss_cons (js_if (jt_cmp (of_eq (hu64 hr)) (je_ix ix_any (je_v 0) je_int) je_str (nomark _)) (jss_one (js_ret (je_callTy cb_str T.z_str (by decide +kernel) (ja_cons (je_ix ix_any (je_v 0) je_int) ja_nil)))) jss_nil)
      (jss_cons (js_if (jt_cmp (of_eq (hu64 hr)) (je_ix ix_any (je_v 0) je_int) je_str (nomark _)) (jss_one (js_ret (je_ix ix_any (je_v 0) je_int))) jss_nil)
      (jss_cons (js_if (jt_cmp (of_eq (hu64 hr)) (je_ix ix_any (je_v 0) je_int) je_str (nomark _)) (jss_one (js_ret (je_op of_add je_str (je_ix ix_any (je_v 0) je_int)))) jss_nil)
      (jss_one (js_ret (je_op of_add (je_op of_add (je_op of_add (je_ix ix_any (je_v 0) je_int) je_str) (je_bm PySem.F.plainAttrs_str PySem.F.slot_str_join PySem.F.type_str_join bm_join je_str (ja_cons (je_lc (own := [(("arm" : Str), 1)]) rfl sc_shown.nd (ji_seq (je_ix ix_any (je_v 0) je_int)) (blkOk_by (own := [(("arm" : Str), 1)]) (N := ["tree", "arm"]) (sc := defScope s_shown) (by decide +kernel)) (by decide) (fun _ _ _ _ _ => (jg_name (i := 1) sc_shown.nd)) (fun _ _ _ _ _ => jts_nil) (fun _ _ _ _ _ => (je_call takes0 C_shown T.b_shown hr T.m_shown (ja_cons (je_v 1) ja_nil)))) ja_nil))) je_str))))))
theorem c_law_k07 (T : Txt K mg) : Cal P w K mg base (T.ca w) 70 T.a_law_k07 T.d_law_k07 ["_law_script"] F_law_k07 :=
  cal_mk (k := 69) (body := b_law_k07) T.h_law_k07 sc_law_k07 rfl fun cdv A outer s H E hr tk hp =>
    (jss_cons (js_set (i := 1) sc_law_k07.nd (je_call tk (c_L_mixed T) T.b_L_mixed (hr.mono (by omega)) T.m_L_mixed (ja_cons (je_call tk (c_L_cell_at T) T.b_L_cell_at (hr.mono (by omega)) T.m_L_cell_at (ja_cons (je_v 0) (ja_cons je_int ja_nil))) (ja_cons je_int ja_nil))))
      (jss_cons (js_set (i := 2) sc_law_k07.nd je_int)
      (jss_cons (js_if (jt_cmp (of_eq (hu64 hr)) (je_op of_mod (je_op of_fdiv (je_v 1) je_int) je_int) je_int (nomark _)) (jss_one (js_set (i := 2) sc_law_k07.nd (je_op of_add je_int (je_op of_mod (je_op of_fdiv (je_v 1) je_int) je_int)))) jss_nil)
      (jss_cons (js_set (i := 3) sc_law_k07.nd je_str)
      (jss_cons (js_for hp rfl (ji_enum T.z_enumerate (ja_cons (je_sl (je_v 0) jo_none (jo_some (je_v 2))) ja_nil)) (jg_tup rfl (jgs_cons (jg_name (i := 5) sc_law_k07.nd) (jgs_cons (jg_name (i := 6) sc_law_k07.nd) jgs_nil))) (jss_one (js_set (i := 3) sc_law_k07.nd (je_op of_add (je_v 3) (je_call tk (c_L_piece T) T.b_L_piece (hr.mono (by omega)) T.m_L_piece (ja_cons (je_call tk (c_L_mixed T) T.b_L_mixed (hr.mono (by omega)) T.m_L_mixed (ja_cons (je_v 6) (ja_cons (je_v 5) ja_nil))) (ja_cons (je_v 5) (ja_cons (je_op of_mod (je_v 1) je_int) ja_nil))))))))
      (jss_cons (js_for hp rfl (ji_seq (je_tup (ja_cons je_bl (ja_cons je_bl ja_nil)))) (jg_name (i := 4) sc_law_k07.nd) (jss_cons (js_set (i := 7) sc_law_k07.nd (je_call tk (c_L_asked T) T.b_L_asked (hr.mono (by omega)) T.m_L_asked (ja_cons (je_v 3) (ja_cons (je_v 4) ja_nil))))
      (jss_one (js_if (jt_cmp of_isN (je_ix ix_any (je_v 7) je_int) je_non (nomark _)) (jss_one (js_if (jt_cmp (of_ne (hu64 hr)) (je_ix ix_any (je_v 7) je_int) (je_tup (ja_cons je_bl (ja_cons je_bl (ja_cons je_bl ja_nil)))) (nomark _)) (jss_one (js_ret je_bl)) jss_nil)) (jss_one (js_if (JW.jt (jw_or (jt_cmp of_notN (je_ix ix_any (je_v 7) je_int) je_non (nomark _)) (jw_or (jt_cmp of_gt (je_call tk (c_L_form T 64) T.b_L_form (hr.mono (by omega)) T.m_L_form (ja_cons (je_ix ix_any (je_v 7) je_int) (ja_cons je_int (ja_cons (je_v 4) ja_nil)))) je_int (nomark _)) (jw_or1 (jt_cmp (of_ne (hu64 hr)) (je_call tk (c_shown T 64) T.b_shown (hr.mono (by omega)) T.m_shown (ja_cons (je_ix ix_any (je_v 7) je_int) ja_nil)) (je_v 3) (nomark _)))))) (jss_one (js_ret je_bl)) jss_nil))))))
      (jss_one (js_ret je_bl))))))))
end
theorem all_mk {P : Program} {w : World} {K : PySem.W.Frag} {h : Heap} {mg : Str → Option Value} {fa : Addr} (main : ∀ ns : List Int, ns.length ≤ 63 → ∃ st, F_law_k07 [.frz (ns.map PV.int)] [] = .ok (.bl true) st) (X : K.In h) (G : h.Ns mainGlobals mg) (hfa : mg "law" = some (.ref fa))
    {f0 f1 f2 f3 f4 f5 f6 f7 f8 f9 f10 f11 f12 f13 f14 f15 f16 f17 f18 f19 f20 uc_Apart uc_TooBig uc_TooWide uc_NoRule uc_NoRow uc_Full uc_NoTree uc_SameError : Addr} {od0 an0 od1 an1 od2 an2 od3 an3 od4 an4 od5 an5 od6 an6 od7 an7 od8 an8 od9 an9 od10 an10 od11 an11 od12 an12 od13 an13 od14 an14 od15 an15 od16 an16 od17 an17 od18 an18 od19 an19 od20 an20 : Option Addr} {sl0 sl1 sl2 sl3 sl4 sl5 sl6 sl7 sl8 sl9 sl10 sl11 sl12 sl13 sl14 sl15 sl16 sl17 sl18 sl19 sl20 : Array (Option Value)} {oc0 kV0 dc0 pm0 cd0 ct0 oc1 kV1 dc1 pm1 cd1 ct1 oc2 kV2 dc2 pm2 cd2 ct2 oc3 kV3 dc3 pm3 cd3 ct3 oc4 kV4 dc4 pm4 cd4 ct4 oc5 kV5 dc5 pm5 cd5 ct5 oc6 kV6 dc6 pm6 cd6 ct6 oc7 kV7 dc7 pm7 cd7 ct7 oc8 kV8 dc8 pm8 cd8 ct8 oc9 kV9 dc9 pm9 cd9 ct9 oc10 kV10 dc10 pm10 cd10 ct10 oc11 kV11 dc11 pm11 cd11 ct11 oc12 kV12 dc12 pm12 cd12 ct12 oc13 kV13 dc13 pm13 cd13 ct13 oc14 kV14 dc14 pm14 cd14 ct14 oc15 kV15 dc15 pm15 cd15 ct15 oc16 kV16 dc16 pm16 cd16 ct16 oc17 kV17 dc17 pm17 cd17 ct17 oc18 kV18 dc18 pm18 cd18 ct18 oc19 kV19 dc19 pm19 cd19 ct19 oc20 kV20 dc20 pm20 cd20 ct20 : Value} {tq_MOST_FIGURES tq_FIGURES tq_LETTERS tq_MOST_DEPTH tq_MOST_ARMS tq_MOST_PARTS : Tok}
    (u_Apart : PySem.W.nsIn K mainGlobals "Apart" = some (some (.ref uc_Apart)))
    (u_TooBig : PySem.W.nsIn K mainGlobals "TooBig" = some (some (.ref uc_TooBig)))
    (u_TooWide : PySem.W.nsIn K mainGlobals "TooWide" = some (some (.ref uc_TooWide)))
    (u_NoRule : PySem.W.nsIn K mainGlobals "NoRule" = some (some (.ref uc_NoRule)))
    (u_NoRow : PySem.W.nsIn K mainGlobals "NoRow" = some (some (.ref uc_NoRow)))
    (u_Full : PySem.W.nsIn K mainGlobals "Full" = some (some (.ref uc_Full)))
    (u_NoTree : PySem.W.nsIn K mainGlobals "NoTree" = some (some (.ref uc_NoTree)))
    (u_SameError : PySem.W.nsIn K mainGlobals "SameError" = some (some (.ref uc_SameError)))
    (a0 : PySem.W.nsIn K mainGlobals "_law_other" = some (some (.ref f0)))
    (l0 : K.lookup f0 = some ⟨oc0, od0, .func (PySem.W.fnOf "_law_other" "_law_other" (defArgs s_L_other) (defBody s_L_other) (defScope s_L_other) .none kV0 dc0 pm0 an0 cd0 ct0), sl0⟩)
    (c0 : PySem.W.codeIn K cd0 "_law_other" = true)
    (k0 : PySem.W.keepIn K (.ref f0) = true)
    (a1 : PySem.W.nsIn K mainGlobals "parts" = some (some (.ref f1)))
    (l1 : K.lookup f1 = some ⟨oc1, od1, .func (PySem.W.fnOf "parts" "parts" (defArgs s_parts) (defBody s_parts) (defScope s_parts) .none kV1 dc1 pm1 an1 cd1 ct1), sl1⟩)
    (c1 : PySem.W.codeIn K cd1 "parts" = true)
    (k1 : PySem.W.keepIn K (.ref f1) = true)
    (a2 : PySem.W.nsIn K mainGlobals "run_of" = some (some (.ref f2)))
    (l2 : K.lookup f2 = some ⟨oc2, od2, .func (PySem.W.fnOf "run_of" "run_of" (defArgs s_run_of) (defBody s_run_of) (defScope s_run_of) .none kV2 dc2 pm2 an2 cd2 ct2), sl2⟩)
    (c2 : PySem.W.codeIn K cd2 "run_of" = true)
    (k2 : PySem.W.keepIn K (.ref f2) = true)
    (a3 : PySem.W.nsIn K mainGlobals "number_at" = some (some (.ref f3)))
    (l3 : K.lookup f3 = some ⟨oc3, od3, .func (PySem.W.fnOf "number_at" "number_at" (defArgs s_number_at) (defBody s_number_at) (defScope s_number_at) .none kV3 dc3 pm3 an3 cd3 ct3), sl3⟩)
    (c3 : PySem.W.codeIn K cd3 "number_at" = true)
    (k3 : PySem.W.keepIn K (.ref f3) = true)
    (a4 : PySem.W.nsIn K mainGlobals "is_word" = some (some (.ref f4)))
    (l4 : K.lookup f4 = some ⟨oc4, od4, .func (PySem.W.fnOf "is_word" "is_word" (defArgs s_is_word) (defBody s_is_word) (defScope s_is_word) .none kV4 dc4 pm4 an4 cd4 ct4), sl4⟩)
    (c4 : PySem.W.codeIn K cd4 "is_word" = true)
    (k4 : PySem.W.keepIn K (.ref f4) = true)
    (a5 : PySem.W.nsIn K mainGlobals "word_at" = some (some (.ref f5)))
    (l5 : K.lookup f5 = some ⟨oc5, od5, .func (PySem.W.fnOf "word_at" "word_at" (defArgs s_word_at) (defBody s_word_at) (defScope s_word_at) .none kV5 dc5 pm5 an5 cd5 ct5), sl5⟩)
    (c5 : PySem.W.codeIn K cd5 "word_at" = true)
    (k5 : PySem.W.keepIn K (.ref f5) = true)
    (a6 : PySem.W.nsIn K mainGlobals "tree_at" = some (some (.ref f6)))
    (l6 : K.lookup f6 = some ⟨oc6, od6, .func (PySem.W.fnOf "tree_at" "tree_at" (defArgs s_tree_at) (defBody s_tree_at) (defScope s_tree_at) .none kV6 dc6 pm6 an6 cd6 ct6), sl6⟩)
    (c6 : PySem.W.codeIn K cd6 "tree_at" = true)
    (k6 : PySem.W.keepIn K (.ref f6) = true)
    (a7 : PySem.W.nsIn K mainGlobals "knot_at" = some (some (.ref f7)))
    (l7 : K.lookup f7 = some ⟨oc7, od7, .func (PySem.W.fnOf "knot_at" "knot_at" (defArgs s_knot_at) (defBody s_knot_at) (defScope s_knot_at) .none kV7 dc7 pm7 an7 cd7 ct7), sl7⟩)
    (c7 : PySem.W.codeIn K cd7 "knot_at" = true)
    (k7 : PySem.W.keepIn K (.ref f7) = true)
    (a8 : PySem.W.nsIn K mainGlobals "whole_of" = some (some (.ref f8)))
    (l8 : K.lookup f8 = some ⟨oc8, od8, .func (PySem.W.fnOf "whole_of" "whole_of" (defArgs s_whole_of) (defBody s_whole_of) (defScope s_whole_of) .none kV8 dc8 pm8 an8 cd8 ct8), sl8⟩)
    (c8 : PySem.W.codeIn K cd8 "whole_of" = true)
    (k8 : PySem.W.keepIn K (.ref f8) = true)
    (a9 : PySem.W.nsIn K mainGlobals "read" = some (some (.ref f9)))
    (l9 : K.lookup f9 = some ⟨oc9, od9, .func (PySem.W.fnOf "read" "read" (defArgs s_read) (defBody s_read) (defScope s_read) .none kV9 dc9 pm9 an9 cd9 ct9), sl9⟩)
    (c9 : PySem.W.codeIn K cd9 "read" = true)
    (k9 : PySem.W.keepIn K (.ref f9) = true)
    (a10 : PySem.W.nsIn K mainGlobals "read_pattern" = some (some (.ref f10)))
    (l10 : K.lookup f10 = some ⟨oc10, od10, .func (PySem.W.fnOf "read_pattern" "read_pattern" (defArgs s_read_pattern) (defBody s_read_pattern) (defScope s_read_pattern) .none kV10 dc10 pm10 an10 cd10 ct10), sl10⟩)
    (c10 : PySem.W.codeIn K cd10 "read_pattern" = true)
    (k10 : PySem.W.keepIn K (.ref f10) = true)
    (a11 : PySem.W.nsIn K mainGlobals "_law_asked" = some (some (.ref f11)))
    (l11 : K.lookup f11 = some ⟨oc11, od11, .func (PySem.W.fnOf "_law_asked" "_law_asked" (defArgs s_L_asked) (defBody s_L_asked) (defScope s_L_asked) .none kV11 dc11 pm11 an11 cd11 ct11), sl11⟩)
    (c11 : PySem.W.codeIn K cd11 "_law_asked" = true)
    (k11 : PySem.W.keepIn K (.ref f11) = true)
    (a12 : PySem.W.nsIn K mainGlobals "_law_cell_at" = some (some (.ref f12)))
    (l12 : K.lookup f12 = some ⟨oc12, od12, .func (PySem.W.fnOf "_law_cell_at" "_law_cell_at" (defArgs s_L_cell_at) (defBody s_L_cell_at) (defScope s_L_cell_at) .none kV12 dc12 pm12 an12 cd12 ct12), sl12⟩)
    (c12 : PySem.W.codeIn K cd12 "_law_cell_at" = true)
    (k12 : PySem.W.keepIn K (.ref f12) = true)
    (a13 : PySem.W.nsIn K mainGlobals "_law_letters" = some (some (.ref f13)))
    (l13 : K.lookup f13 = some ⟨oc13, od13, .func (PySem.W.fnOf "_law_letters" "_law_letters" (defArgs s_L_letters) (defBody s_L_letters) (defScope s_L_letters) .none kV13 dc13 pm13 an13 cd13 ct13), sl13⟩)
    (c13 : PySem.W.codeIn K cd13 "_law_letters" = true)
    (k13 : PySem.W.keepIn K (.ref f13) = true)
    (a14 : PySem.W.nsIn K mainGlobals "_law_form" = some (some (.ref f14)))
    (l14 : K.lookup f14 = some ⟨oc14, od14, .func (PySem.W.fnOf "_law_form" "_law_form" (defArgs s_L_form) (defBody s_L_form) (defScope s_L_form) .none kV14 dc14 pm14 an14 cd14 ct14), sl14⟩)
    (c14 : PySem.W.codeIn K cd14 "_law_form" = true)
    (k14 : PySem.W.keepIn K (.ref f14) = true)
    (a15 : PySem.W.nsIn K mainGlobals "_law_mixed" = some (some (.ref f15)))
    (l15 : K.lookup f15 = some ⟨oc15, od15, .func (PySem.W.fnOf "_law_mixed" "_law_mixed" (defArgs s_L_mixed) (defBody s_L_mixed) (defScope s_L_mixed) .none kV15 dc15 pm15 an15 cd15 ct15), sl15⟩)
    (c15 : PySem.W.codeIn K cd15 "_law_mixed" = true)
    (k15 : PySem.W.keepIn K (.ref f15) = true)
    (a16 : PySem.W.nsIn K mainGlobals "_law_figures" = some (some (.ref f16)))
    (l16 : K.lookup f16 = some ⟨oc16, od16, .func (PySem.W.fnOf "_law_figures" "_law_figures" (defArgs s_L_figures) (defBody s_L_figures) (defScope s_L_figures) .none kV16 dc16 pm16 an16 cd16 ct16), sl16⟩)
    (c16 : PySem.W.codeIn K cd16 "_law_figures" = true)
    (k16 : PySem.W.keepIn K (.ref f16) = true)
    (a17 : PySem.W.nsIn K mainGlobals "_law_word" = some (some (.ref f17)))
    (l17 : K.lookup f17 = some ⟨oc17, od17, .func (PySem.W.fnOf "_law_word" "_law_word" (defArgs s_L_word) (defBody s_L_word) (defScope s_L_word) .none kV17 dc17 pm17 an17 cd17 ct17), sl17⟩)
    (c17 : PySem.W.codeIn K cd17 "_law_word" = true)
    (k17 : PySem.W.keepIn K (.ref f17) = true)
    (a18 : PySem.W.nsIn K mainGlobals "_law_piece" = some (some (.ref f18)))
    (l18 : K.lookup f18 = some ⟨oc18, od18, .func (PySem.W.fnOf "_law_piece" "_law_piece" (defArgs s_L_piece) (defBody s_L_piece) (defScope s_L_piece) .none kV18 dc18 pm18 an18 cd18 ct18), sl18⟩)
    (c18 : PySem.W.codeIn K cd18 "_law_piece" = true)
    (k18 : PySem.W.keepIn K (.ref f18) = true)
    (a19 : PySem.W.nsIn K mainGlobals "shown" = some (some (.ref f19)))
    (l19 : K.lookup f19 = some ⟨oc19, od19, .func (PySem.W.fnOf "shown" "shown" (defArgs s_shown) (defBody s_shown) (defScope s_shown) .none kV19 dc19 pm19 an19 cd19 ct19), sl19⟩)
    (c19 : PySem.W.codeIn K cd19 "shown" = true)
    (k19 : PySem.W.keepIn K (.ref f19) = true)
    (a20 : PySem.W.nsIn K mainGlobals "law" = some (some (.ref f20)))
    (l20 : K.lookup f20 = some ⟨oc20, od20, .func (PySem.W.fnOf "law" "law" (defArgs s_law_k07) (defBody s_law_k07) (defScope s_law_k07) .none kV20 dc20 pm20 an20 cd20 ct20), sl20⟩)
    (c20 : PySem.W.codeIn K cd20 "law" = true)
    (k20 : PySem.W.keepIn K (.ref f20) = true)
    (z_isinstance : PySem.W.nsIn K mainGlobals "isinstance" = some none)
    (z_len : PySem.W.nsIn K mainGlobals "len" = some none)
    (z_int : PySem.W.nsIn K mainGlobals "int" = some none)
    (z_tuple : PySem.W.nsIn K mainGlobals "tuple" = some none)
    (z_ValueError : PySem.W.nsIn K mainGlobals "ValueError" = some none)
    (z_sum : PySem.W.nsIn K mainGlobals "sum" = some none)
    (z_str : PySem.W.nsIn K mainGlobals "str" = some none)
    (z_bool : PySem.W.nsIn K mainGlobals "bool" = some none)
    (z_abs : PySem.W.nsIn K mainGlobals "abs" = some none)
    (z_enumerate : PySem.W.nsIn K mainGlobals "enumerate" = some none)
    (q_MOST_FIGURES : PySem.W.nsIn K mainGlobals "MOST_FIGURES" = some (some (.int 60 tq_MOST_FIGURES)))
    (q_FIGURES : PySem.W.nsIn K mainGlobals "FIGURES" = some (some (.str ("0123456789" : Str) tq_FIGURES)))
    (q_LETTERS : PySem.W.nsIn K mainGlobals "LETTERS" = some (some (.str ("abcdefghijklmnopqrstuvwxyz" : Str) tq_LETTERS)))
    (q_MOST_DEPTH : PySem.W.nsIn K mainGlobals "MOST_DEPTH" = some (some (.int 30 tq_MOST_DEPTH)))
    (q_MOST_ARMS : PySem.W.nsIn K mainGlobals "MOST_ARMS" = some (some (.int 4 tq_MOST_ARMS)))
    (q_MOST_PARTS : PySem.W.nsIn K mainGlobals "MOST_PARTS" = some (some (.int 120 tq_MOST_PARTS)))
    (xr1_NoTree : PySem.W.excIn K uc_NoTree veB "ValueError.__new__" = true)
    (xr2_NoTree : PySem.W.keepIn K (.ref uc_NoTree) = true)
    (xr3_NoTree : PySem.W.subIn K (.ref uc_NoTree) (.type "BaseException") = some true)
    (xr4_NoTree : PySem.W.typeIn K (.ref uc_NoTree) = some (.type "type"))
    (xa_NoTree : PySem.W.findIn K (.ref uc_NoTree) "__getattribute__" = some (some (.builtin "BaseException.__getattribute__")))
    (xb_NoTree : PySem.W.findIn K (.ref uc_NoTree) "__getattr__" = some none)
    (xc_NoTree : PySem.W.hasDictIn K uc_NoTree = true)
    (xd_NoTree : PySem.W.findIn K (.ref uc_NoTree) "__class__" = some (some (.builtin "object.__class__")))
    (xe_NoTree : PySem.W.specialIn K (.builtin "object.__class__") "__get__" = some (some (.builtin "getset_descriptor.__get__")))
    (xg_NoTree : PySem.W.takesIn K (.builtin "object.__class__") = some true)
    (xh_NoTree : PySem.W.mroIn K uc_NoTree (.type "object") = some true)
    (xv_NoTree : PySem.W.kitOne K (.ref uc_NoTree) (.type "ValueError") = some true)
    (xk_NoTree_SameError : PySem.W.kitOne K (.ref uc_NoTree) (.ref uc_SameError) = some true)
    (xm_NoTree_SameError : PySem.W.exmOne K (.ref uc_NoTree) (.ref uc_SameError) = some true)
    (xk_NoTree_NoTree : PySem.W.kitOne K (.ref uc_NoTree) (.ref uc_NoTree) = some true)
    (xm_NoTree_NoTree : PySem.W.exmOne K (.ref uc_NoTree) (.ref uc_NoTree) = some true)
    (xk_NoTree_NoRule : PySem.W.kitOne K (.ref uc_NoTree) (.ref uc_NoRule) = some false)
    (xm_NoTree_NoRule : PySem.W.exmOne K (.ref uc_NoTree) (.ref uc_NoRule) = some false)
    (xk_NoTree_NoRow : PySem.W.kitOne K (.ref uc_NoTree) (.ref uc_NoRow) = some false)
    (xm_NoTree_NoRow : PySem.W.exmOne K (.ref uc_NoTree) (.ref uc_NoRow) = some false)
    (xk_NoTree_Full : PySem.W.kitOne K (.ref uc_NoTree) (.ref uc_Full) = some false)
    (xm_NoTree_Full : PySem.W.exmOne K (.ref uc_NoTree) (.ref uc_Full) = some false)
    (xk_NoTree_Apart : PySem.W.kitOne K (.ref uc_NoTree) (.ref uc_Apart) = some false)
    (xm_NoTree_Apart : PySem.W.exmOne K (.ref uc_NoTree) (.ref uc_Apart) = some false)
    (xk_NoTree_TooBig : PySem.W.kitOne K (.ref uc_NoTree) (.ref uc_TooBig) = some false)
    (xm_NoTree_TooBig : PySem.W.exmOne K (.ref uc_NoTree) (.ref uc_TooBig) = some false)
    (xk_NoTree_TooWide : PySem.W.kitOne K (.ref uc_NoTree) (.ref uc_TooWide) = some false)
    (xm_NoTree_TooWide : PySem.W.exmOne K (.ref uc_NoTree) (.ref uc_TooWide) = some false) :
    ∃ fd : FuncData, (∀ (s : Shared) (v : Value), BindsTo s fd ⟨[v], []⟩ [("_law_script", v)]) ∧ ∀ base : Heap, K.In base → base.Ns mainGlobals mg → FnOk P w K mg base (L2.CX P w) 70 fa fd ["_law_script"] (spTop K) := by
  have e := hfa.symm.trans (PySem.W.mg_of X G a20)
  cases e
  have F0 := fun_mk (st := s_L_other) l0 c0 k0
  have b0 := F0.binds (ps := ["_law_e"]) fun _ _ _ _ _ _ us hl => match us, hl with | [_], _ => rfl
  have F1 := fun_mk (st := s_parts) l1 c1 k1
  have b1 := F1.binds (ps := ["tree"]) fun _ _ _ _ _ _ us hl => match us, hl with | [_], _ => rfl
  have F2 := fun_mk (st := s_run_of) l2 c2 k2
  have b2 := F2.binds (ps := ["text", "at", "signs"]) fun _ _ _ _ _ _ us hl => match us, hl with | [_, _, _], _ => rfl
  have F3 := fun_mk (st := s_number_at) l3 c3 k3
  have b3 := F3.binds (ps := ["text", "at"]) fun _ _ _ _ _ _ us hl => match us, hl with | [_, _], _ => rfl
  have F4 := fun_mk (st := s_is_word) l4 c4 k4
  have b4 := F4.binds (ps := ["text"]) fun _ _ _ _ _ _ us hl => match us, hl with | [_], _ => rfl
  have F5 := fun_mk (st := s_word_at) l5 c5 k5
  have b5 := F5.binds (ps := ["text", "at"]) fun _ _ _ _ _ _ us hl => match us, hl with | [_, _], _ => rfl
  have F6 := fun_mk (st := s_tree_at) l6 c6 k6
  have b6 := F6.binds (ps := ["text", "at", "bare", "deep"]) fun _ _ _ _ _ _ us hl => match us, hl with | [_, _, _, _], _ => rfl
  have F7 := fun_mk (st := s_knot_at) l7 c7 k7
  have b7 := F7.binds (ps := ["text", "at", "word", "bare", "deep"]) fun _ _ _ _ _ _ us hl => match us, hl with | [_, _, _, _, _], _ => rfl
  have F8 := fun_mk (st := s_whole_of) l8 c8 k8
  have b8 := F8.binds (ps := ["text", "bare"]) fun _ _ _ _ _ _ us hl => match us, hl with | [_, _], _ => rfl
  have F9 := fun_mk (st := s_read) l9 c9 k9
  have b9 := F9.binds (ps := ["text"]) fun _ _ _ _ _ _ us hl => match us, hl with | [_], _ => rfl
  have F10 := fun_mk (st := s_read_pattern) l10 c10 k10
  have b10 := F10.binds (ps := ["text"]) fun _ _ _ _ _ _ us hl => match us, hl with | [_], _ => rfl
  have F11 := fun_mk (st := s_L_asked) l11 c11 k11
  have b11 := F11.binds (ps := ["_law_line", "_law_holed"]) fun _ _ _ _ _ _ us hl => match us, hl with | [_, _], _ => rfl
  have F12 := fun_mk (st := s_L_cell_at) l12 c12 k12
  have b12 := F12.binds (ps := ["_law_script", "_law_k"]) fun _ _ _ _ _ _ us hl => match us, hl with | [_, _], _ => rfl
  have F13 := fun_mk (st := s_L_letters) l13 c13 k13
  have b13 := F13.binds (ps := ["_law_word_here"]) fun _ _ _ _ _ _ us hl => match us, hl with | [_], _ => rfl
  have F14 := fun_mk (st := s_L_form) l14 c14 k14
  have b14 := F14.binds (ps := ["_law_tree", "_law_deep", "_law_holed"]) fun _ _ _ _ _ _ us hl => match us, hl with | [_, _, _], _ => rfl
  have F15 := fun_mk (st := s_L_mixed) l15 c15 k15
  have b15 := F15.binds (ps := ["_law_cell", "_law_k"]) fun _ _ _ _ _ _ us hl => match us, hl with | [_, _], _ => rfl
  have F16 := fun_mk (st := s_L_figures) l16 c16 k16
  have b16 := F16.binds (ps := ["_law_m", "_law_k"]) fun _ _ _ _ _ _ us hl => match us, hl with | [_, _], _ => rfl
  have F17 := fun_mk (st := s_L_word) l17 c17 k17
  have b17 := F17.binds (ps := ["_law_m"]) fun _ _ _ _ _ _ us hl => match us, hl with | [_], _ => rfl
  have F18 := fun_mk (st := s_L_piece) l18 c18 k18
  have b18 := F18.binds (ps := ["_law_m", "_law_k", "_law_way"]) fun _ _ _ _ _ _ us hl => match us, hl with | [_, _, _], _ => rfl
  have F19 := fun_mk (st := s_shown) l19 c19 k19
  have b19 := F19.binds (ps := ["tree"]) fun _ _ _ _ _ _ us hl => match us, hl with | [_], _ => rfl
  have F20 := fun_mk (st := s_law_k07) l20 c20 k20
  have b20 := F20.binds (ps := ["_law_script"]) fun _ _ _ _ _ _ us hl => match us, hl with | [_], _ => rfl
  let T : Txt K mg := { a_L_other := _, d_L_other := _, h_L_other := F0, b0_L_other := b0, m_L_other := PySem.W.mg_of X G a0, a_parts := _, d_parts := _, h_parts := F1, b0_parts := b1, m_parts := PySem.W.mg_of X G a1, a_run_of := _, d_run_of := _, h_run_of := F2, b0_run_of := b2, m_run_of := PySem.W.mg_of X G a2, a_number_at := _, d_number_at := _, h_number_at := F3, b0_number_at := b3, m_number_at := PySem.W.mg_of X G a3, a_is_word := _, d_is_word := _, h_is_word := F4, b0_is_word := b4, m_is_word := PySem.W.mg_of X G a4, a_word_at := _, d_word_at := _, h_word_at := F5, b0_word_at := b5, m_word_at := PySem.W.mg_of X G a5, a_tree_at := _, d_tree_at := _, h_tree_at := F6, b0_tree_at := b6, m_tree_at := PySem.W.mg_of X G a6, a_knot_at := _, d_knot_at := _, h_knot_at := F7, b0_knot_at := b7, m_knot_at := PySem.W.mg_of X G a7, a_whole_of := _, d_whole_of := _, h_whole_of := F8, b0_whole_of := b8, m_whole_of := PySem.W.mg_of X G a8, a_read := _, d_read := _, h_read := F9, b0_read := b9, m_read := PySem.W.mg_of X G a9, a_read_pattern := _, d_read_pattern := _, h_read_pattern := F10, b0_read_pattern := b10, m_read_pattern := PySem.W.mg_of X G a10, a_L_asked := _, d_L_asked := _, h_L_asked := F11, b0_L_asked := b11, m_L_asked := PySem.W.mg_of X G a11, a_L_cell_at := _, d_L_cell_at := _, h_L_cell_at := F12, b0_L_cell_at := b12, m_L_cell_at := PySem.W.mg_of X G a12, a_L_letters := _, d_L_letters := _, h_L_letters := F13, b0_L_letters := b13, m_L_letters := PySem.W.mg_of X G a13, a_L_form := _, d_L_form := _, h_L_form := F14, b0_L_form := b14, m_L_form := PySem.W.mg_of X G a14, a_L_mixed := _, d_L_mixed := _, h_L_mixed := F15, b0_L_mixed := b15, m_L_mixed := PySem.W.mg_of X G a15, a_L_figures := _, d_L_figures := _, h_L_figures := F16, b0_L_figures := b16, m_L_figures := PySem.W.mg_of X G a16, a_L_word := _, d_L_word := _, h_L_word := F17, b0_L_word := b17, m_L_word := PySem.W.mg_of X G a17, a_L_piece := _, d_L_piece := _, h_L_piece := F18, b0_L_piece := b18, m_L_piece := PySem.W.mg_of X G a18, a_shown := _, d_shown := _, h_shown := F19, b0_shown := b19, m_shown := PySem.W.mg_of X G a19, a_law_k07 := _, d_law_k07 := _, h_law_k07 := F20, b0_law_k07 := b20, m_law_k07 := PySem.W.mg_of X G a20, z_isinstance := PySem.W.mg_none_of X G z_isinstance, z_len := PySem.W.mg_none_of X G z_len, z_int := PySem.W.mg_none_of X G z_int, z_tuple := PySem.W.mg_none_of X G z_tuple, z_ValueError := PySem.W.mg_none_of X G z_ValueError, z_sum := PySem.W.mg_none_of X G z_sum, z_str := PySem.W.mg_none_of X G z_str, z_bool := PySem.W.mg_none_of X G z_bool, z_abs := PySem.W.mg_none_of X G z_abs, z_enumerate := PySem.W.mg_none_of X G z_enumerate, k_MOST_FIGURES := ⟨_, V.int 60, PySem.W.mg_of X G q_MOST_FIGURES, ⟨_, rfl⟩, fun _ _ _ => .int _⟩, k_FIGURES := ⟨_, V.str ("0123456789" : Str), PySem.W.mg_of X G q_FIGURES, ⟨_, rfl⟩, fun _ _ _ => .str _⟩, k_LETTERS := ⟨_, V.str ("abcdefghijklmnopqrstuvwxyz" : Str), PySem.W.mg_of X G q_LETTERS, ⟨_, rfl⟩, fun _ _ _ => .str _⟩, k_MOST_DEPTH := ⟨_, V.int 30, PySem.W.mg_of X G q_MOST_DEPTH, ⟨_, rfl⟩, fun _ _ _ => .int _⟩, k_MOST_ARMS := ⟨_, V.int 4, PySem.W.mg_of X G q_MOST_ARMS, ⟨_, rfl⟩, fun _ _ _ => .int _⟩, k_MOST_PARTS := ⟨_, V.int 120, PySem.W.mg_of X G q_MOST_PARTS, ⟨_, rfl⟩, fun _ _ _ => .int _⟩, c_Apart := _, m_Apart := PySem.W.mg_of X G u_Apart, c_TooBig := _, m_TooBig := PySem.W.mg_of X G u_TooBig, c_TooWide := _, m_TooWide := PySem.W.mg_of X G u_TooWide, c_NoRule := _, m_NoRule := PySem.W.mg_of X G u_NoRule, c_NoRow := _, m_NoRow := PySem.W.mg_of X G u_NoRow, c_Full := _, m_Full := PySem.W.mg_of X G u_Full, c_NoTree := _, m_NoTree := PySem.W.mg_of X G u_NoTree, c_SameError := _, m_SameError := PySem.W.mg_of X G u_SameError, xr1_NoTree := xr1_NoTree, xr2_NoTree := xr2_NoTree, xr3_NoTree := xr3_NoTree, xr4_NoTree := xr4_NoTree, xv_NoTree := xv_NoTree, xx_NoTree := ⟨xa_NoTree, xb_NoTree, xr3_NoTree, xc_NoTree, xd_NoTree, xe_NoTree, xg_NoTree, xh_NoTree⟩, xk_NoTree_SameError := xk_NoTree_SameError, xm_NoTree_SameError := xm_NoTree_SameError, xk_NoTree_NoTree := xk_NoTree_NoTree, xm_NoTree_NoTree := xm_NoTree_NoTree, xk_NoTree_NoRule := xk_NoTree_NoRule, xm_NoTree_NoRule := xm_NoTree_NoRule, xk_NoTree_NoRow := xk_NoTree_NoRow, xm_NoTree_NoRow := xm_NoTree_NoRow, xk_NoTree_Full := xk_NoTree_Full, xm_NoTree_Full := xm_NoTree_Full, xk_NoTree_Apart := xk_NoTree_Apart, xm_NoTree_Apart := xm_NoTree_Apart, xk_NoTree_TooBig := xk_NoTree_TooBig, xm_NoTree_TooBig := xm_NoTree_TooBig, xk_NoTree_TooWide := xk_NoTree_TooWide, xm_NoTree_TooWide := xm_NoTree_TooWide }
  refine ⟨PySem.W.fnOf "law" "law" (defArgs s_law_k07) (defBody s_law_k07) (defScope s_law_k07) .none kV20 dc20 pm20 an20 cd20 ct20, fun s v => .of_eq rfl, fun base _ _ => ?_⟩
  exact top_ok (c_law_k07 T) main
end FL.Wk07
end
section
set_option linter.all false
set_option maxRecDepth 100000
namespace FL
open PySem PySem.Spec PyProof.Rows L2
noncomputable section
def b_depth_e1 (p_depth : Fn) : FE :=
    (callF 1 p_depth [] (consA (varF 1) nilA))
def b_depth (p_depth : Fn) : FS :=
    (seqS (ifS (isB (opF neV (opF idxV (varF 0) (cstF (.int 0))) (cstF (.str ("of" : Str))))) (retS (cstF (.int 1))) nxS)
    (retS (opF addV (cstF (.int 1)) (cbF maxV (consA (lcF (seqI (opF idxV (varF 0) (cstF (.int 2)))) [1] (nameG 1) yesT (b_depth_e1 p_depth)) nilA)))))
def F_depth : Nat → Fn
  | 0 => fn0
  | n + 1 => runFn 2 (b_depth (F_depth n))
end
end FL
end
section
set_option linter.all false
set_option maxRecDepth 100000
namespace FL
open PySem PySem.Spec PyProof.Rows L2
noncomputable section
def b_knots_e1 (p_knots : Fn) : FE :=
    (callF 1 p_knots [] (consA (varF 1) nilA))
def b_knots (p_knots : Fn) : FS :=
    (seqS (ifS (isB (opF neV (opF idxV (varF 0) (cstF (.int 0))) (cstF (.str ("of" : Str))))) (retS (cstF (.int 0))) nxS)
    (retS (opF addV (cstF (.int 1)) (cbF sumV (consA (lcF (seqI (opF idxV (varF 0) (cstF (.int 2)))) [1] (nameG 1) yesT (b_knots_e1 p_knots)) nilA)))))
def F_knots : Nat → Fn
  | 0 => fn0
  | n + 1 => runFn 2 (b_knots (F_knots n))
end
end FL
end
section
set_option linter.all false
set_option maxRecDepth 100000
namespace FL
open PySem PySem.Spec PyProof.Rows L2
noncomputable section
/-! ## trees and patterns -/
inductive Tr where
  | num (i : Int) | name (x : Str) | any (x : Str) | of (w : Str) (as : List Tr)
mutual
def Tr.pv : Tr → PV
  | .num i => .tup [.str "num", .int i]
  | .name x => .tup [.str "name", .str x]
  | .any x => .tup [.str "any", .str x]
  | .of w as => .tup [.str "of", .str w, .tup (pvs as)]
def pvs : List Tr → List PV
  | [] => []
  | t :: r => t.pv :: pvs r
end
mutual
def Tr.parts : Tr → Nat
  | .num _ => 1
  | .name _ => 1
  | .any _ => 1
  | .of _ as => 1 + partsL as
def partsL : List Tr → Nat
  | [] => 0
  | t :: r => t.parts + partsL r
end
mutual
def Tr.depth : Tr → Nat
  | .num _ => 1
  | .name _ => 1
  | .any _ => 1
  | .of _ as => 1 + depthL as
def depthL : List Tr → Nat
  | [] => 0
  | t :: r => max t.depth (depthL r)
end
mutual
def Tr.knots : Tr → Nat
  | .num _ => 0
  | .name _ => 0
  | .any _ => 0
  | .of _ as => 1 + knotsL as
def knotsL : List Tr → Nat
  | [] => 0
  | t :: r => t.knots + knotsL r
end
mutual
/-- each knot has arms -/
def Tr.ok : Tr → Bool
  | .of _ as => !as.isEmpty && decide (as.length ≤ 1000) && okL as
  | _ => true
def okL : List Tr → Bool
  | [] => true
  | t :: r => t.ok && okL r
end
theorem pvs_map (as : List Tr) : pvs as = as.map Tr.pv := by
  induction as with
  | nil => rfl
  | cons a r ih => rw [pvs, ih, List.map_cons]
theorem partsL_eq (as : List Tr) : partsL as = (as.map Tr.parts).sum := by
  induction as with
  | nil => rfl
  | cons a r ih => rw [partsL, ih, List.map_cons, List.sum_cons]
theorem knotsL_eq (as : List Tr) : knotsL as = (as.map Tr.knots).sum := by
  induction as with
  | nil => rfl
  | cons a r ih => rw [knotsL, ih, List.map_cons, List.sum_cons]
theorem depthL_le {as : List Tr} {a : Tr} (h : a ∈ as) : a.depth ≤ depthL as := by
  induction as with
  | nil => cases h
  | cons b r ih =>
    rw [depthL]
    rcases List.mem_cons.mp h with rfl | h
    · omega
    · have := ih h; omega
theorem depth_pos (t : Tr) : 1 ≤ t.depth := by cases t <;> simp only [Tr.depth] <;> omega
theorem okL_mem {as : List Tr} (h : okL as = true) {a : Tr} (ha : a ∈ as) : a.ok = true := by
  induction as with
  | nil => cases ha
  | cons b r ih =>
    rw [okL, Bool.and_eq_true] at h
    rcases List.mem_cons.mp ha with rfl | ha
    · exact h.1
    · exact ih h.2 ha
mutual
theorem pv_pure : ∀ t : Tr, pureP t.pv = true
  | .num _ => rfl
  | .name _ => rfl
  | .any _ => rfl
  | .of w as => by
    simp only [Tr.pv, pureP, puresP, Bool.and_true, Bool.true_and]
    exact pvs_pure as
theorem pvs_pure : ∀ as : List Tr, puresP (pvs as) = true
  | [] => rfl
  | t :: r => by rw [pvs, puresP, pv_pure t, pvs_pure r]; rfl
end
theorem sum_nat (l : List Nat) : (l.map fun n : Nat => (n : Int)).sum = ((l.sum : Nat) : Int) := by
  induction l with
  | nil => rfl
  | cons a r ih => rw [List.map_cons, List.sum_cons, ih, List.sum_cons]; simp
theorem F_parts_ok : ∀ (n : Nat) (t : Tr) (st : Store), t.depth ≤ n → F_parts n [t.pv] st = .ok (.int (t.parts : Nat)) st := by
  intro n
  induction n with
  | zero => intro t st h; have := depth_pos t; omega
  | succ n ih =>
    intro t st h
    unfold F_parts
    refine run_rt0 ?_ rfl
    cases t with
    | num i => simp only [b_parts, Tr.pv, seqS, ifS, setS, augS, dropS, retS, retN, nxS, bkS, ctS, asgS, subS, R.toS, R.bind, R.of, opF, unF, varF, cstF, chF, isB, asB, andT, orT, notT, andF, orF, notF, ifF, nilA, consA, tupF, lstF, cbF, callF, bmF', truT, truV, nameG, nilG, consG, tupG, List.set_cons_zero, List.set_cons_succ, List.getElem?_cons_zero, List.getElem?_cons_succ, Option.bind_some, Option.bind_none, Option.map_some, Option.map_none, List.length_cons, List.length_nil, List.cons_append, List.nil_append, List.append_nil, if_true, if_false, ite_true, ite_false, Bool.false_eq_true, reduceIte, reduceCtorEq, List.map_cons, List.map_nil, Nat.sub_self, List.replicate_succ, List.replicate_zero, Nat.reduceSub, Nat.reduceAdd, Nat.reduceLT, Nat.reduceLeDiff, Nat.reduceEqDiff, Nat.reduceMul, Nat.reducePow, Int.reduceLT, Int.reduceLE, Int.reduceAdd, Int.reduceMul, Int.reduceSub, Int.reduceNeg, Int.reduceEq, Int.reducePow, Int.reduceMod, Int.reduceDiv, Int.reduceToNat, decide_true, decide_false, and_true, true_and, and_self, Option.some.injEq, addV, iaddV, subV, mulV, fdivV, modV, powV, negV, cmpV, isNonV, notNonV, eqV, neV, eqB, scEq, t1, t2, t3, t4, t5, t6, t7, t8, t9, t10, t11, t12, t13, t14, t15, t16, idxV, at0, at1, at2, at3, at4, at5, seqAt, lstAt, lenV, isiV, typV, kb1, kb2, kb3, kb4, kb5, kb6, kb7, kb8, kb9, kb10, kb11, Tr.parts]; rfl
    | name i => simp only [b_parts, Tr.pv, seqS, ifS, setS, augS, dropS, retS, retN, nxS, bkS, ctS, asgS, subS, R.toS, R.bind, R.of, opF, unF, varF, cstF, chF, isB, asB, andT, orT, notT, andF, orF, notF, ifF, nilA, consA, tupF, lstF, cbF, callF, bmF', truT, truV, nameG, nilG, consG, tupG, List.set_cons_zero, List.set_cons_succ, List.getElem?_cons_zero, List.getElem?_cons_succ, Option.bind_some, Option.bind_none, Option.map_some, Option.map_none, List.length_cons, List.length_nil, List.cons_append, List.nil_append, List.append_nil, if_true, if_false, ite_true, ite_false, Bool.false_eq_true, reduceIte, reduceCtorEq, List.map_cons, List.map_nil, Nat.sub_self, List.replicate_succ, List.replicate_zero, Nat.reduceSub, Nat.reduceAdd, Nat.reduceLT, Nat.reduceLeDiff, Nat.reduceEqDiff, Nat.reduceMul, Nat.reducePow, Int.reduceLT, Int.reduceLE, Int.reduceAdd, Int.reduceMul, Int.reduceSub, Int.reduceNeg, Int.reduceEq, Int.reducePow, Int.reduceMod, Int.reduceDiv, Int.reduceToNat, decide_true, decide_false, and_true, true_and, and_self, Option.some.injEq, addV, iaddV, subV, mulV, fdivV, modV, powV, negV, cmpV, isNonV, notNonV, eqV, neV, eqB, scEq, t1, t2, t3, t4, t5, t6, t7, t8, t9, t10, t11, t12, t13, t14, t15, t16, idxV, at0, at1, at2, at3, at4, at5, seqAt, lstAt, lenV, isiV, typV, kb1, kb2, kb3, kb4, kb5, kb6, kb7, kb8, kb9, kb10, kb11, Tr.parts]; rfl
    | any i => simp only [b_parts, Tr.pv, seqS, ifS, setS, augS, dropS, retS, retN, nxS, bkS, ctS, asgS, subS, R.toS, R.bind, R.of, opF, unF, varF, cstF, chF, isB, asB, andT, orT, notT, andF, orF, notF, ifF, nilA, consA, tupF, lstF, cbF, callF, bmF', truT, truV, nameG, nilG, consG, tupG, List.set_cons_zero, List.set_cons_succ, List.getElem?_cons_zero, List.getElem?_cons_succ, Option.bind_some, Option.bind_none, Option.map_some, Option.map_none, List.length_cons, List.length_nil, List.cons_append, List.nil_append, List.append_nil, if_true, if_false, ite_true, ite_false, Bool.false_eq_true, reduceIte, reduceCtorEq, List.map_cons, List.map_nil, Nat.sub_self, List.replicate_succ, List.replicate_zero, Nat.reduceSub, Nat.reduceAdd, Nat.reduceLT, Nat.reduceLeDiff, Nat.reduceEqDiff, Nat.reduceMul, Nat.reducePow, Int.reduceLT, Int.reduceLE, Int.reduceAdd, Int.reduceMul, Int.reduceSub, Int.reduceNeg, Int.reduceEq, Int.reducePow, Int.reduceMod, Int.reduceDiv, Int.reduceToNat, decide_true, decide_false, and_true, true_and, and_self, Option.some.injEq, addV, iaddV, subV, mulV, fdivV, modV, powV, negV, cmpV, isNonV, notNonV, eqV, neV, eqB, scEq, t1, t2, t3, t4, t5, t6, t7, t8, t9, t10, t11, t12, t13, t14, t15, t16, idxV, at0, at1, at2, at3, at4, at5, seqAt, lstAt, lenV, isiV, typV, kb1, kb2, kb3, kb4, kb5, kb6, kb7, kb8, kb9, kb10, kb11, Tr.parts]; rfl
    | of w as =>
      simp only [Tr.depth] at h
      obtain ⟨e', st', h1, h2⟩ := forL_inv (gd := []) (g := nameG 2) (b := b_parts_s1 (F_parts n)) (xs := pvs as)
        (fun i e s => s = st ∧ ∃ v, e = [some (Tr.of w as).pv, some (.int ((1 + ((as.take i).map Tr.parts).sum : Nat) : Int)), v]) (e := [some (Tr.of w as).pv, some (.int 1), none]) (st := st) ⟨rfl, none, rfl⟩ (fun i x e s hx hP => by
          obtain ⟨rfl, v, rfl⟩ := hP
          rw [pvs_map, List.getElem?_map] at hx
          obtain ⟨a, ha, rfl⟩ := Option.map_eq_some_iff.mp hx
          have hd := depthL_le (List.mem_of_getElem? ha)
          refine ⟨gd_nil _, _, rfl, _, _, ?_, rfl, some a.pv, rfl⟩
          simp only [b_parts_s1, seqS, ifS, setS, augS, dropS, retS, retN, nxS, bkS, ctS, asgS, subS, R.toS, R.bind, R.of, opF, unF, varF, cstF, chF, isB, asB, andT, orT, notT, andF, orF, notF, ifF, nilA, consA, tupF, lstF, cbF, callF, bmF', truT, truV, nameG, nilG, consG, tupG, List.set_cons_zero, List.set_cons_succ, List.getElem?_cons_zero, List.getElem?_cons_succ, Option.bind_some, Option.bind_none, Option.map_some, Option.map_none, List.length_cons, List.length_nil, List.cons_append, List.nil_append, List.append_nil, if_true, if_false, ite_true, ite_false, Bool.false_eq_true, reduceIte, reduceCtorEq, List.map_cons, List.map_nil, Nat.sub_self, List.replicate_succ, List.replicate_zero, Nat.reduceSub, Nat.reduceAdd, Nat.reduceLT, Nat.reduceLeDiff, Nat.reduceEqDiff, Nat.reduceMul, Nat.reducePow, Int.reduceLT, Int.reduceLE, Int.reduceAdd, Int.reduceMul, Int.reduceSub, Int.reduceNeg, Int.reduceEq, Int.reducePow, Int.reduceMod, Int.reduceDiv, Int.reduceToNat, decide_true, decide_false, and_true, true_and, and_self, Option.some.injEq, addV, iaddV, subV, mulV, fdivV, modV, powV, negV, cmpV, isNonV, notNonV, ih a s (by omega)]
          rw [List.take_add_one, ha]
          simp only [Option.toList_some, List.map_append, List.sum_append, List.map_cons, List.map_nil, List.sum_cons, List.sum_nil]
          congr 5
          omega) (fun e s _ => gd_nil _)
      obtain ⟨rfl, v, rfl⟩ := h2
      rw [pvs_map, List.length_map, List.take_length, ← partsL_eq] at h1
      rw [← pvs_map] at h1
      simp only [Tr.pv] at h1
      simp only [b_parts, Tr.pv, seqS, ifS, setS, augS, dropS, retS, retN, nxS, bkS, ctS, asgS, subS, R.toS, R.bind, R.of, opF, unF, varF, cstF, chF, isB, asB, andT, orT, notT, andF, orF, notF, ifF, nilA, consA, tupF, lstF, cbF, callF, bmF', truT, truV, nameG, nilG, consG, tupG, List.set_cons_zero, List.set_cons_succ, List.getElem?_cons_zero, List.getElem?_cons_succ, Option.bind_some, Option.bind_none, Option.map_some, Option.map_none, List.length_cons, List.length_nil, List.cons_append, List.nil_append, List.append_nil, if_true, if_false, ite_true, ite_false, Bool.false_eq_true, reduceIte, reduceCtorEq, List.map_cons, List.map_nil, Nat.sub_self, List.replicate_succ, List.replicate_zero, Nat.reduceSub, Nat.reduceAdd, Nat.reduceLT, Nat.reduceLeDiff, Nat.reduceEqDiff, Nat.reduceMul, Nat.reducePow, Int.reduceLT, Int.reduceLE, Int.reduceAdd, Int.reduceMul, Int.reduceSub, Int.reduceNeg, Int.reduceEq, Int.reducePow, Int.reduceMod, Int.reduceDiv, Int.reduceToNat, decide_true, decide_false, and_true, true_and, and_self, Option.some.injEq, addV, iaddV, subV, mulV, fdivV, modV, powV, negV, cmpV, isNonV, notNonV, eqV, neV, eqB, scEq, t1, t2, t3, t4, t5, t6, t7, t8, t9, t10, t11, t12, t13, t14, t15, t16, idxV, at0, at1, at2, at3, at4, at5, seqAt, lstAt, lenV, isiV, typV, kb1, kb2, kb3, kb4, kb5, kb6, kb7, kb8, kb9, kb10, kb11, Tr.parts, forS, seqI, gdOf, h1]
theorem foldl_max (l : List Nat) (a : Nat) : (l.map fun n : Nat => (n : Int)).foldl max (a : Int) = ((l.foldl max a : Nat) : Int) := by
  induction l generalizing a with
  | nil => rfl
  | cons b r ih =>
    rw [List.map_cons, List.foldl_cons, List.foldl_cons, ← ih]
    congr 1
    omega
theorem depthL_fold (as : List Tr) (a : Nat) : (as.map Tr.depth).foldl max a = max a (depthL as) := by
  induction as generalizing a with
  | nil => simp [depthL]
  | cons b r ih => rw [List.map_cons, List.foldl_cons, ih, depthL]; omega
theorem maxL_depth {as : List Tr} (h : as ≠ []) : maxL (as.map fun a => ((a.depth : Nat) : Int)) = ((depthL as : Nat) : Int) := by
  cases as with
  | nil => exact absurd rfl h
  | cons b r =>
    have e : ((b :: r).map fun a => ((a.depth : Nat) : Int)) = ((b :: r).map Tr.depth).map fun n : Nat => (n : Int) := by rw [List.map_map]; rfl
    unfold maxL
    rw [e]
    show List.foldl max ((b.depth : Nat) : Int) _ = _
    rw [foldl_max, depthL_fold, depthL]
    congr 1
    omega
theorem intsOf_mapf {α : Type} (xs : List α) (f : α → Int) : intsOf (xs.map fun a => PV.int (f a)) = some (xs.map f) := by
  have := intsOf_map (xs.map f)
  rwa [List.map_map] at this
theorem gd_one {s : Store} {r : Nat} {o : PO} (h : s[r]? = some o) : GdOk [(r, o)] s := fun p hp => by
  rw [List.mem_singleton] at hp
  subst hp
  exact h
theorem lcE {α : Type} {i k : Nat} {fe : FE} {e : Env} {s : Store} (r : Nat) (as : List α) (f φ : α → PV) (hv : e[i]? = some (some (.ref r))) (hs : s[r]? = some (.lst (as.map f))) (hl : as.length ≤ 1000000)
    (hx : ∀ a ∈ as, ∀ acc, fe ((wipeE e [k]).set k (some (f a))) (s ++ [.lst acc]) = .ok (φ a) (s ++ [.lst acc])) :
    lcF (seqI (varF i)) [k] (nameG k) yesT fe e s = .ok (.ref s.length) (s ++ [.lst (as.map φ)]) :=
  lcF_map (gd := [(r, .lst (as.map f))]) as f φ (by simp only [seqI, varF, hv, R.bind, seqAt, lstAt, hs, gdOf]) (fun acc => gd_one (getOld hs)) (by rw [sizeLine_eq]; omega) fun a ha => ⟨_, rfl, hx a ha⟩
theorem lcT {α : Type} {i k : Nat} {fi : FE} {fe : FE} {e : Env} {s : Store} (as : List α) (f φ : α → PV) (hv : fi e s = .ok (.tup (as.map f)) s) (hl : as.length ≤ 1000000)
    (hx : ∀ a ∈ as, ∀ acc, fe ((wipeE e [k]).set k (some (f a))) (s ++ [.lst acc]) = .ok (φ a) (s ++ [.lst acc])) :
    lcF (seqI fi) [k] (nameG k) yesT fe e s = .ok (.ref s.length) (s ++ [.lst (as.map φ)]) :=
  lcF_map (gd := []) as f φ (by simp only [seqI, hv, R.bind, seqAt, gdOf]) (fun acc => gd_nil _) (by rw [sizeLine_eq]; omega) fun a ha => ⟨_, rfl, hx a ha⟩
theorem okL_ne {as : List Tr} {w : Str} (h : (Tr.of w as).ok = true) : as ≠ [] ∧ as.length ≤ 1000 ∧ okL as = true := by
  simp only [Tr.ok, Bool.and_eq_true, decide_eq_true_eq, Bool.not_eq_true', List.isEmpty_eq_false_iff] at h
  exact ⟨h.1.1, h.1.2, h.2⟩
theorem F_depth_ok : ∀ (n : Nat) (t : Tr) (st : Store), t.depth ≤ n → t.ok = true → F_depth n [t.pv] st = .ok (.int (t.depth : Nat)) st := by
  intro n
  induction n with
  | zero => intro t st h; have := depth_pos t; omega
  | succ n ih =>
    intro t st h hok
    unfold F_depth
    cases t with
    | num i => refine run_rt0 ?_ rfl; simp only [b_depth, Tr.pv, seqS, ifS, setS, augS, dropS, retS, retN, nxS, bkS, ctS, asgS, subS, R.toS, R.bind, R.of, opF, unF, varF, cstF, chF, isB, asB, andT, orT, notT, andF, orF, notF, ifF, nilA, consA, tupF, lstF, cbF, callF, bmF', truT, truV, nameG, nilG, consG, tupG, List.set_cons_zero, List.set_cons_succ, List.getElem?_cons_zero, List.getElem?_cons_succ, Option.bind_some, Option.bind_none, Option.map_some, Option.map_none, List.length_cons, List.length_nil, List.cons_append, List.nil_append, List.append_nil, if_true, if_false, ite_true, ite_false, Bool.false_eq_true, reduceIte, reduceCtorEq, List.map_cons, List.map_nil, Nat.sub_self, List.replicate_succ, List.replicate_zero, Nat.reduceSub, Nat.reduceAdd, Nat.reduceLT, Nat.reduceLeDiff, Nat.reduceEqDiff, Nat.reduceMul, Nat.reducePow, Int.reduceLT, Int.reduceLE, Int.reduceAdd, Int.reduceMul, Int.reduceSub, Int.reduceNeg, Int.reduceEq, Int.reducePow, Int.reduceMod, Int.reduceDiv, Int.reduceToNat, decide_true, decide_false, and_true, true_and, and_self, Option.some.injEq, addV, iaddV, subV, mulV, fdivV, modV, powV, negV, cmpV, isNonV, notNonV, eqV, neV, eqB, scEq, t1, t2, t3, t4, t5, t6, t7, t8, t9, t10, t11, t12, t13, t14, t15, t16, idxV, at0, at1, at2, at3, at4, at5, seqAt, lstAt, lenV, isiV, typV, kb1, kb2, kb3, kb4, kb5, kb6, kb7, kb8, kb9, kb10, kb11, Tr.depth, Bool.not_false]; rfl
    | name i => refine run_rt0 ?_ rfl; simp only [b_depth, Tr.pv, seqS, ifS, setS, augS, dropS, retS, retN, nxS, bkS, ctS, asgS, subS, R.toS, R.bind, R.of, opF, unF, varF, cstF, chF, isB, asB, andT, orT, notT, andF, orF, notF, ifF, nilA, consA, tupF, lstF, cbF, callF, bmF', truT, truV, nameG, nilG, consG, tupG, List.set_cons_zero, List.set_cons_succ, List.getElem?_cons_zero, List.getElem?_cons_succ, Option.bind_some, Option.bind_none, Option.map_some, Option.map_none, List.length_cons, List.length_nil, List.cons_append, List.nil_append, List.append_nil, if_true, if_false, ite_true, ite_false, Bool.false_eq_true, reduceIte, reduceCtorEq, List.map_cons, List.map_nil, Nat.sub_self, List.replicate_succ, List.replicate_zero, Nat.reduceSub, Nat.reduceAdd, Nat.reduceLT, Nat.reduceLeDiff, Nat.reduceEqDiff, Nat.reduceMul, Nat.reducePow, Int.reduceLT, Int.reduceLE, Int.reduceAdd, Int.reduceMul, Int.reduceSub, Int.reduceNeg, Int.reduceEq, Int.reducePow, Int.reduceMod, Int.reduceDiv, Int.reduceToNat, decide_true, decide_false, and_true, true_and, and_self, Option.some.injEq, addV, iaddV, subV, mulV, fdivV, modV, powV, negV, cmpV, isNonV, notNonV, eqV, neV, eqB, scEq, t1, t2, t3, t4, t5, t6, t7, t8, t9, t10, t11, t12, t13, t14, t15, t16, idxV, at0, at1, at2, at3, at4, at5, seqAt, lstAt, lenV, isiV, typV, kb1, kb2, kb3, kb4, kb5, kb6, kb7, kb8, kb9, kb10, kb11, Tr.depth, Bool.not_false]; rfl
    | any i => refine run_rt0 ?_ rfl; simp only [b_depth, Tr.pv, seqS, ifS, setS, augS, dropS, retS, retN, nxS, bkS, ctS, asgS, subS, R.toS, R.bind, R.of, opF, unF, varF, cstF, chF, isB, asB, andT, orT, notT, andF, orF, notF, ifF, nilA, consA, tupF, lstF, cbF, callF, bmF', truT, truV, nameG, nilG, consG, tupG, List.set_cons_zero, List.set_cons_succ, List.getElem?_cons_zero, List.getElem?_cons_succ, Option.bind_some, Option.bind_none, Option.map_some, Option.map_none, List.length_cons, List.length_nil, List.cons_append, List.nil_append, List.append_nil, if_true, if_false, ite_true, ite_false, Bool.false_eq_true, reduceIte, reduceCtorEq, List.map_cons, List.map_nil, Nat.sub_self, List.replicate_succ, List.replicate_zero, Nat.reduceSub, Nat.reduceAdd, Nat.reduceLT, Nat.reduceLeDiff, Nat.reduceEqDiff, Nat.reduceMul, Nat.reducePow, Int.reduceLT, Int.reduceLE, Int.reduceAdd, Int.reduceMul, Int.reduceSub, Int.reduceNeg, Int.reduceEq, Int.reducePow, Int.reduceMod, Int.reduceDiv, Int.reduceToNat, decide_true, decide_false, and_true, true_and, and_self, Option.some.injEq, addV, iaddV, subV, mulV, fdivV, modV, powV, negV, cmpV, isNonV, notNonV, eqV, neV, eqB, scEq, t1, t2, t3, t4, t5, t6, t7, t8, t9, t10, t11, t12, t13, t14, t15, t16, idxV, at0, at1, at2, at3, at4, at5, seqAt, lstAt, lenV, isiV, typV, kb1, kb2, kb3, kb4, kb5, kb6, kb7, kb8, kb9, kb10, kb11, Tr.depth, Bool.not_false]; rfl
    | of w as =>
      obtain ⟨o1, o2, o3⟩ := okL_ne hok
      simp only [Tr.depth] at h
      refine run_rt (g := [.lst (as.map fun a => .int (a.depth : Nat))]) ?_ rfl
      have hl := lcT (i := 0) (k := 1) (fi := opF idxV (varF 0) (cstF (.int 2))) (fe := b_depth_e1 (F_depth n)) (e := [some (Tr.of w as).pv, none]) (s := st) as Tr.pv (fun a => .int (a.depth : Nat)) (by simp only [Tr.pv, pvs_map, seqS, ifS, setS, augS, dropS, retS, retN, nxS, bkS, ctS, asgS, subS, R.toS, R.bind, R.of, opF, unF, varF, cstF, chF, isB, asB, andT, orT, notT, andF, orF, notF, ifF, nilA, consA, tupF, lstF, cbF, callF, bmF', truT, truV, nameG, nilG, consG, tupG, List.set_cons_zero, List.set_cons_succ, List.getElem?_cons_zero, List.getElem?_cons_succ, Option.bind_some, Option.bind_none, Option.map_some, Option.map_none, List.length_cons, List.length_nil, List.cons_append, List.nil_append, List.append_nil, if_true, if_false, ite_true, ite_false, Bool.false_eq_true, reduceIte, reduceCtorEq, List.map_cons, List.map_nil, Nat.sub_self, List.replicate_succ, List.replicate_zero, Nat.reduceSub, Nat.reduceAdd, Nat.reduceLT, Nat.reduceLeDiff, Nat.reduceEqDiff, Nat.reduceMul, Nat.reducePow, Int.reduceLT, Int.reduceLE, Int.reduceAdd, Int.reduceMul, Int.reduceSub, Int.reduceNeg, Int.reduceEq, Int.reducePow, Int.reduceMod, Int.reduceDiv, Int.reduceToNat, decide_true, decide_false, and_true, true_and, and_self, Option.some.injEq, idxV, at0, at1, at2, at3, at4, at5, seqAt, lstAt, lenV, isiV, typV, kb1, kb2, kb3, kb4, kb5, kb6, kb7, kb8, kb9, kb10, kb11]) (by omega) (fun a ha acc => by
        simp only [b_depth_e1, wipeE, seqS, ifS, setS, augS, dropS, retS, retN, nxS, bkS, ctS, asgS, subS, R.toS, R.bind, R.of, opF, unF, varF, cstF, chF, isB, asB, andT, orT, notT, andF, orF, notF, ifF, nilA, consA, tupF, lstF, cbF, callF, bmF', truT, truV, nameG, nilG, consG, tupG, List.set_cons_zero, List.set_cons_succ, List.getElem?_cons_zero, List.getElem?_cons_succ, Option.bind_some, Option.bind_none, Option.map_some, Option.map_none, List.length_cons, List.length_nil, List.cons_append, List.nil_append, List.append_nil, if_true, if_false, ite_true, ite_false, Bool.false_eq_true, reduceIte, reduceCtorEq, List.map_cons, List.map_nil, Nat.sub_self, List.replicate_succ, List.replicate_zero, Nat.reduceSub, Nat.reduceAdd, Nat.reduceLT, Nat.reduceLeDiff, Nat.reduceEqDiff, Nat.reduceMul, Nat.reducePow, Int.reduceLT, Int.reduceLE, Int.reduceAdd, Int.reduceMul, Int.reduceSub, Int.reduceNeg, Int.reduceEq, Int.reducePow, Int.reduceMod, Int.reduceDiv, Int.reduceToNat, decide_true, decide_false, and_true, true_and, and_self, Option.some.injEq, ih a _ (Nat.le_trans (depthL_le ha) (by omega)) (okL_mem o3 ha)])
      simp only [Tr.pv] at hl
      have hne : (as.map fun a => ((a.depth : Nat) : Int)) ≠ [] := by simpa using o1
      simp only [b_depth, Tr.pv, seqS, ifS, setS, augS, dropS, retS, retN, nxS, bkS, ctS, asgS, subS, R.toS, R.bind, R.of, opF, unF, varF, cstF, chF, isB, asB, andT, orT, notT, andF, orF, notF, ifF, nilA, consA, tupF, lstF, cbF, callF, bmF', truT, truV, nameG, nilG, consG, tupG, List.set_cons_zero, List.set_cons_succ, List.getElem?_cons_zero, List.getElem?_cons_succ, Option.bind_some, Option.bind_none, Option.map_some, Option.map_none, List.length_cons, List.length_nil, List.cons_append, List.nil_append, List.append_nil, if_true, if_false, ite_true, ite_false, Bool.false_eq_true, reduceIte, reduceCtorEq, List.map_cons, List.map_nil, Nat.sub_self, List.replicate_succ, List.replicate_zero, Nat.reduceSub, Nat.reduceAdd, Nat.reduceLT, Nat.reduceLeDiff, Nat.reduceEqDiff, Nat.reduceMul, Nat.reducePow, Int.reduceLT, Int.reduceLE, Int.reduceAdd, Int.reduceMul, Int.reduceSub, Int.reduceNeg, Int.reduceEq, Int.reducePow, Int.reduceMod, Int.reduceDiv, Int.reduceToNat, decide_true, decide_false, and_true, true_and, and_self, Option.some.injEq, addV, iaddV, subV, mulV, fdivV, modV, powV, negV, cmpV, isNonV, notNonV, eqV, neV, eqB, scEq, t1, t2, t3, t4, t5, t6, t7, t8, t9, t10, t11, t12, t13, t14, t15, t16, idxV, at0, at1, at2, at3, at4, at5, seqAt, lstAt, lenV, isiV, typV, kb1, kb2, kb3, kb4, kb5, kb6, kb7, kb8, kb9, kb10, kb11, Tr.depth, Bool.not_true, hl, maxV, getS0, intsOf_mapf as (fun a => ((a.depth : Nat) : Int)), hne, maxL_depth o1]
      simp
theorem F_knots_ok : ∀ (n : Nat) (t : Tr) (st : Store), t.depth ≤ n → t.ok = true → F_knots n [t.pv] st = .ok (.int (t.knots : Nat)) st := by
  intro n
  induction n with
  | zero => intro t st h; have := depth_pos t; omega
  | succ n ih =>
    intro t st h hok
    unfold F_knots
    cases t with
    | num i => refine run_rt0 ?_ rfl; simp only [b_knots, Tr.pv, seqS, ifS, setS, augS, dropS, retS, retN, nxS, bkS, ctS, asgS, subS, R.toS, R.bind, R.of, opF, unF, varF, cstF, chF, isB, asB, andT, orT, notT, andF, orF, notF, ifF, nilA, consA, tupF, lstF, cbF, callF, bmF', truT, truV, nameG, nilG, consG, tupG, List.set_cons_zero, List.set_cons_succ, List.getElem?_cons_zero, List.getElem?_cons_succ, Option.bind_some, Option.bind_none, Option.map_some, Option.map_none, List.length_cons, List.length_nil, List.cons_append, List.nil_append, List.append_nil, if_true, if_false, ite_true, ite_false, Bool.false_eq_true, reduceIte, reduceCtorEq, List.map_cons, List.map_nil, Nat.sub_self, List.replicate_succ, List.replicate_zero, Nat.reduceSub, Nat.reduceAdd, Nat.reduceLT, Nat.reduceLeDiff, Nat.reduceEqDiff, Nat.reduceMul, Nat.reducePow, Int.reduceLT, Int.reduceLE, Int.reduceAdd, Int.reduceMul, Int.reduceSub, Int.reduceNeg, Int.reduceEq, Int.reducePow, Int.reduceMod, Int.reduceDiv, Int.reduceToNat, decide_true, decide_false, and_true, true_and, and_self, Option.some.injEq, addV, iaddV, subV, mulV, fdivV, modV, powV, negV, cmpV, isNonV, notNonV, eqV, neV, eqB, scEq, t1, t2, t3, t4, t5, t6, t7, t8, t9, t10, t11, t12, t13, t14, t15, t16, idxV, at0, at1, at2, at3, at4, at5, seqAt, lstAt, lenV, isiV, typV, kb1, kb2, kb3, kb4, kb5, kb6, kb7, kb8, kb9, kb10, kb11, Tr.knots, Bool.not_false]; rfl
    | name i => refine run_rt0 ?_ rfl; simp only [b_knots, Tr.pv, seqS, ifS, setS, augS, dropS, retS, retN, nxS, bkS, ctS, asgS, subS, R.toS, R.bind, R.of, opF, unF, varF, cstF, chF, isB, asB, andT, orT, notT, andF, orF, notF, ifF, nilA, consA, tupF, lstF, cbF, callF, bmF', truT, truV, nameG, nilG, consG, tupG, List.set_cons_zero, List.set_cons_succ, List.getElem?_cons_zero, List.getElem?_cons_succ, Option.bind_some, Option.bind_none, Option.map_some, Option.map_none, List.length_cons, List.length_nil, List.cons_append, List.nil_append, List.append_nil, if_true, if_false, ite_true, ite_false, Bool.false_eq_true, reduceIte, reduceCtorEq, List.map_cons, List.map_nil, Nat.sub_self, List.replicate_succ, List.replicate_zero, Nat.reduceSub, Nat.reduceAdd, Nat.reduceLT, Nat.reduceLeDiff, Nat.reduceEqDiff, Nat.reduceMul, Nat.reducePow, Int.reduceLT, Int.reduceLE, Int.reduceAdd, Int.reduceMul, Int.reduceSub, Int.reduceNeg, Int.reduceEq, Int.reducePow, Int.reduceMod, Int.reduceDiv, Int.reduceToNat, decide_true, decide_false, and_true, true_and, and_self, Option.some.injEq, addV, iaddV, subV, mulV, fdivV, modV, powV, negV, cmpV, isNonV, notNonV, eqV, neV, eqB, scEq, t1, t2, t3, t4, t5, t6, t7, t8, t9, t10, t11, t12, t13, t14, t15, t16, idxV, at0, at1, at2, at3, at4, at5, seqAt, lstAt, lenV, isiV, typV, kb1, kb2, kb3, kb4, kb5, kb6, kb7, kb8, kb9, kb10, kb11, Tr.knots, Bool.not_false]; rfl
    | any i => refine run_rt0 ?_ rfl; simp only [b_knots, Tr.pv, seqS, ifS, setS, augS, dropS, retS, retN, nxS, bkS, ctS, asgS, subS, R.toS, R.bind, R.of, opF, unF, varF, cstF, chF, isB, asB, andT, orT, notT, andF, orF, notF, ifF, nilA, consA, tupF, lstF, cbF, callF, bmF', truT, truV, nameG, nilG, consG, tupG, List.set_cons_zero, List.set_cons_succ, List.getElem?_cons_zero, List.getElem?_cons_succ, Option.bind_some, Option.bind_none, Option.map_some, Option.map_none, List.length_cons, List.length_nil, List.cons_append, List.nil_append, List.append_nil, if_true, if_false, ite_true, ite_false, Bool.false_eq_true, reduceIte, reduceCtorEq, List.map_cons, List.map_nil, Nat.sub_self, List.replicate_succ, List.replicate_zero, Nat.reduceSub, Nat.reduceAdd, Nat.reduceLT, Nat.reduceLeDiff, Nat.reduceEqDiff, Nat.reduceMul, Nat.reducePow, Int.reduceLT, Int.reduceLE, Int.reduceAdd, Int.reduceMul, Int.reduceSub, Int.reduceNeg, Int.reduceEq, Int.reducePow, Int.reduceMod, Int.reduceDiv, Int.reduceToNat, decide_true, decide_false, and_true, true_and, and_self, Option.some.injEq, addV, iaddV, subV, mulV, fdivV, modV, powV, negV, cmpV, isNonV, notNonV, eqV, neV, eqB, scEq, t1, t2, t3, t4, t5, t6, t7, t8, t9, t10, t11, t12, t13, t14, t15, t16, idxV, at0, at1, at2, at3, at4, at5, seqAt, lstAt, lenV, isiV, typV, kb1, kb2, kb3, kb4, kb5, kb6, kb7, kb8, kb9, kb10, kb11, Tr.knots, Bool.not_false]; rfl
    | of w as =>
      obtain ⟨o1, o2, o3⟩ := okL_ne hok
      simp only [Tr.depth] at h
      refine run_rt (g := [.lst (as.map fun a => .int (a.knots : Nat))]) ?_ rfl
      have hl := lcT (i := 0) (k := 1) (fi := opF idxV (varF 0) (cstF (.int 2))) (fe := b_knots_e1 (F_knots n)) (e := [some (Tr.of w as).pv, none]) (s := st) as Tr.pv (fun a => .int (a.knots : Nat)) (by simp only [Tr.pv, pvs_map, seqS, ifS, setS, augS, dropS, retS, retN, nxS, bkS, ctS, asgS, subS, R.toS, R.bind, R.of, opF, unF, varF, cstF, chF, isB, asB, andT, orT, notT, andF, orF, notF, ifF, nilA, consA, tupF, lstF, cbF, callF, bmF', truT, truV, nameG, nilG, consG, tupG, List.set_cons_zero, List.set_cons_succ, List.getElem?_cons_zero, List.getElem?_cons_succ, Option.bind_some, Option.bind_none, Option.map_some, Option.map_none, List.length_cons, List.length_nil, List.cons_append, List.nil_append, List.append_nil, if_true, if_false, ite_true, ite_false, Bool.false_eq_true, reduceIte, reduceCtorEq, List.map_cons, List.map_nil, Nat.sub_self, List.replicate_succ, List.replicate_zero, Nat.reduceSub, Nat.reduceAdd, Nat.reduceLT, Nat.reduceLeDiff, Nat.reduceEqDiff, Nat.reduceMul, Nat.reducePow, Int.reduceLT, Int.reduceLE, Int.reduceAdd, Int.reduceMul, Int.reduceSub, Int.reduceNeg, Int.reduceEq, Int.reducePow, Int.reduceMod, Int.reduceDiv, Int.reduceToNat, decide_true, decide_false, and_true, true_and, and_self, Option.some.injEq, idxV, at0, at1, at2, at3, at4, at5, seqAt, lstAt, lenV, isiV, typV, kb1, kb2, kb3, kb4, kb5, kb6, kb7, kb8, kb9, kb10, kb11]) (by omega) (fun a ha acc => by
        simp only [b_knots_e1, wipeE, seqS, ifS, setS, augS, dropS, retS, retN, nxS, bkS, ctS, asgS, subS, R.toS, R.bind, R.of, opF, unF, varF, cstF, chF, isB, asB, andT, orT, notT, andF, orF, notF, ifF, nilA, consA, tupF, lstF, cbF, callF, bmF', truT, truV, nameG, nilG, consG, tupG, List.set_cons_zero, List.set_cons_succ, List.getElem?_cons_zero, List.getElem?_cons_succ, Option.bind_some, Option.bind_none, Option.map_some, Option.map_none, List.length_cons, List.length_nil, List.cons_append, List.nil_append, List.append_nil, if_true, if_false, ite_true, ite_false, Bool.false_eq_true, reduceIte, reduceCtorEq, List.map_cons, List.map_nil, Nat.sub_self, List.replicate_succ, List.replicate_zero, Nat.reduceSub, Nat.reduceAdd, Nat.reduceLT, Nat.reduceLeDiff, Nat.reduceEqDiff, Nat.reduceMul, Nat.reducePow, Int.reduceLT, Int.reduceLE, Int.reduceAdd, Int.reduceMul, Int.reduceSub, Int.reduceNeg, Int.reduceEq, Int.reducePow, Int.reduceMod, Int.reduceDiv, Int.reduceToNat, decide_true, decide_false, and_true, true_and, and_self, Option.some.injEq, ih a _ (Nat.le_trans (depthL_le ha) (by omega)) (okL_mem o3 ha)])
      simp only [Tr.pv] at hl
      have e : (as.map fun a => ((a.knots : Nat) : Int)).sum = ((knotsL as : Nat) : Int) := by rw [knotsL_eq, ← sum_nat, List.map_map]; rfl
      simp only [b_knots, Tr.pv, seqS, ifS, setS, augS, dropS, retS, retN, nxS, bkS, ctS, asgS, subS, R.toS, R.bind, R.of, opF, unF, varF, cstF, chF, isB, asB, andT, orT, notT, andF, orF, notF, ifF, nilA, consA, tupF, lstF, cbF, callF, bmF', truT, truV, nameG, nilG, consG, tupG, List.set_cons_zero, List.set_cons_succ, List.getElem?_cons_zero, List.getElem?_cons_succ, Option.bind_some, Option.bind_none, Option.map_some, Option.map_none, List.length_cons, List.length_nil, List.cons_append, List.nil_append, List.append_nil, if_true, if_false, ite_true, ite_false, Bool.false_eq_true, reduceIte, reduceCtorEq, List.map_cons, List.map_nil, Nat.sub_self, List.replicate_succ, List.replicate_zero, Nat.reduceSub, Nat.reduceAdd, Nat.reduceLT, Nat.reduceLeDiff, Nat.reduceEqDiff, Nat.reduceMul, Nat.reducePow, Int.reduceLT, Int.reduceLE, Int.reduceAdd, Int.reduceMul, Int.reduceSub, Int.reduceNeg, Int.reduceEq, Int.reducePow, Int.reduceMod, Int.reduceDiv, Int.reduceToNat, decide_true, decide_false, and_true, true_and, and_self, Option.some.injEq, addV, iaddV, subV, mulV, fdivV, modV, powV, negV, cmpV, isNonV, notNonV, eqV, neV, eqB, scEq, t1, t2, t3, t4, t5, t6, t7, t8, t9, t10, t11, t12, t13, t14, t15, t16, idxV, at0, at1, at2, at3, at4, at5, seqAt, lstAt, lenV, isiV, typV, kb1, kb2, kb3, kb4, kb5, kb6, kb7, kb8, kb9, kb10, kb11, Tr.knots, Bool.not_true, hl, sumV, getS0, intsOf_mapf as (fun a => ((a.knots : Nat) : Int)), e]
      simp
end
end FL
end
section
set_option linter.all false
set_option maxRecDepth 100000
namespace FL
open PySem PySem.Spec PyProof.Rows L2
noncomputable section
def b_L_number : FS :=
    (seqS (setS 2 (opF subV (opF powV (cstF (.int 10)) (cstF (.int 60))) (cstF (.int 1))))
    (seqS (ifS (isB (opF eqV (opF modV (varF 1) (cstF (.int 4))) (cstF (.int 0)))) (retS (opF subV (opF modV (varF 0) (cstF (.int 19))) (cstF (.int 9)))) nxS)
    (seqS (ifS (isB (opF eqV (opF modV (varF 1) (cstF (.int 4))) (cstF (.int 1)))) (retS (opF subV (opF modV (opF powV (varF 1) (cstF (.int 11))) (opF addV (opF mulV (cstF (.int 2)) (varF 2)) (cstF (.int 1)))) (varF 2))) nxS)
    (seqS (ifS (isB (opF eqV (opF modV (varF 1) (cstF (.int 4))) (cstF (.int 2)))) (retS (opF subV (opF modV (varF 0) (opF addV (opF mulV (cstF (.int 2)) (varF 2)) (cstF (.int 1)))) (varF 2))) nxS)
    (retS (opF idxV (lstF (consA (varF 2) (consA (unF negV (varF 2)) (consA (opF powV (cstF (.int 10)) (cstF (.int 59))) (consA (unF negV (opF powV (cstF (.int 10)) (cstF (.int 59)))) (consA (cstF (.int 10)) (consA (cstF (.int 0)) nilA))))))) (opF modV (opF fdivV (varF 1) (cstF (.int 4))) (cstF (.int 6)))))))))
def F_L_number : Fn := runFn 3 b_L_number
end
end FL
end
section
set_option linter.all false
set_option maxRecDepth 100000
namespace FL
open PySem PySem.Spec PyProof.Rows L2
noncomputable section
def b_L_whole : FS :=
    (retS (andF (cbF isiV (consA (varF 0) (consA (cstF (.ty "int")) nilA))) (andF (notF (cbF isiV (consA (varF 0) (consA (cstF (.ty "bool")) nilA)))) (opF eqV (varF 0) (varF 1)))))
def F_L_whole : Fn := runFn 2 b_L_whole
end
end FL
end
section
set_option linter.all false
set_option maxRecDepth 100000
namespace FL
open PySem PySem.Spec PyProof.Rows L2
noncomputable section
/-! ## what the laws draw by -/
def mixed1 (c k : Int) : Int := (c % 2147483647 + 1) * (48271 + 2 * k * k) % 2147483647
def mixed (c k : Int) : Int := mixed1 c k * mixed1 c k % 2147483629
theorem mixed1_lt (c k : Int) : 0 ≤ mixed1 c k ∧ mixed1 c k < 2147483647 := by
  unfold mixed1
  exact ⟨Int.emod_nonneg _ (by decide), Int.emod_lt_of_pos _ (by decide)⟩
theorem mixed_lt (c k : Int) : 0 ≤ mixed c k ∧ mixed c k < 2147483629 := by
  unfold mixed
  exact ⟨Int.emod_nonneg _ (by decide), Int.emod_lt_of_pos _ (by decide)⟩
theorem mul_nb {i j : Int} {a b : Nat} (hi : i.natAbs ≤ a) (hj : j.natAbs ≤ b) : (i * j).natAbs ≤ a * b := by
  rw [Int.natAbs_mul]
  exact Nat.mul_le_mul hi hj
theorem mulOk_le {i j : Int} (a b : Nat) (hi : i.natAbs ≤ a) (hj : j.natAbs ≤ b) (ha : a < 2 ^ 250) (hb : b < 2 ^ 250) : mulOk i j = true := mulOk_of (Nat.lt_of_le_of_lt hi ha) (Nat.lt_of_le_of_lt hj hb)
theorem F_mixed {c k : Int} {st : Store} (h0 : 0 ≤ k) (h1 : k ≤ 1000000) : F_L_mixed [.int c, .int k] st = .ok (.int (mixed c k)) st := by
  have m1 : mulOk 2 k = true := mulOk_le 2 1000000 (by decide) (by omega) (by decide) (by decide)
  have m2 : mulOk (2 * k) k = true := mulOk_le 2000000 1000000 (by omega) (by omega) (by decide) (by decide)
  have b3 : (2 * k * k).natAbs ≤ 2000000 * 1000000 := mul_nb (by omega) (by omega)
  have m3 : mulOk (c % 2147483647 + 1) (48271 + 2 * k * k) = true := mulOk_le 2147483647 (48271 + 2000000 * 1000000) (by omega) (by omega) (by decide) (by decide)
  have q := mixed1_lt c k
  have m4 : mulOk (mixed1 c k) (mixed1 c k) = true := mulOk_le 2147483647 2147483647 (by omega) (by omega) (by decide) (by decide)
  unfold mixed1 at m4
  unfold F_L_mixed
  refine run_rt0 ?_ rfl
  simp only [b_L_mixed, seqS, ifS, setS, augS, dropS, retS, retN, nxS, bkS, ctS, asgS, subS, R.toS, R.bind, R.of, opF, unF, varF, cstF, chF, isB, asB, andT, orT, notT, andF, orF, notF, ifF, nilA, consA, tupF, lstF, cbF, callF, bmF', truT, truV, nameG, nilG, consG, tupG, List.set_cons_zero, List.set_cons_succ, List.getElem?_cons_zero, List.getElem?_cons_succ, Option.bind_some, Option.bind_none, Option.map_some, Option.map_none, List.length_cons, List.length_nil, List.cons_append, List.nil_append, List.append_nil, if_true, if_false, ite_true, ite_false, Bool.false_eq_true, reduceIte, reduceCtorEq, List.map_cons, List.map_nil, Nat.sub_self, List.replicate_succ, List.replicate_zero, Nat.reduceSub, Nat.reduceAdd, Nat.reduceLT, Nat.reduceLeDiff, Nat.reduceEqDiff, Nat.reduceMul, Nat.reducePow, Int.reduceLT, Int.reduceLE, Int.reduceAdd, Int.reduceMul, Int.reduceSub, Int.reduceNeg, Int.reduceEq, Int.reducePow, Int.reduceMod, Int.reduceDiv, Int.reduceToNat, decide_true, decide_false, and_true, true_and, and_self, Option.some.injEq, addV, iaddV, subV, mulV, fdivV, modV, powV, negV, cmpV, isNonV, notNonV, m1, m2, m3, m4]
  rfl
def cellAt (ns : List Int) (k : Nat) : Int := ns.getD k 0
theorem F_cell {ns : List Int} {k : Nat} {st : Store} : F_L_cell_at [.frz (ns.map PV.int), .int k] st = .ok (.int (cellAt ns k)) st := by
  unfold F_L_cell_at
  refine run_rt0 ?_ rfl
  by_cases h : k < ns.length
  · have e : decide ((k : Int) < ((ns.map PV.int).length : Nat)) = true := by simp; exact h
    simp only [b_L_cell_at, seqS, ifS, setS, augS, dropS, retS, retN, nxS, bkS, ctS, asgS, subS, R.toS, R.bind, R.of, opF, unF, varF, cstF, chF, isB, asB, andT, orT, notT, andF, orF, notF, ifF, nilA, consA, tupF, lstF, cbF, callF, bmF', truT, truV, nameG, nilG, consG, tupG, List.set_cons_zero, List.set_cons_succ, List.getElem?_cons_zero, List.getElem?_cons_succ, Option.bind_some, Option.bind_none, Option.map_some, Option.map_none, List.length_cons, List.length_nil, List.cons_append, List.nil_append, List.append_nil, if_true, if_false, ite_true, ite_false, Bool.false_eq_true, reduceIte, reduceCtorEq, List.map_cons, List.map_nil, Nat.sub_self, List.replicate_succ, List.replicate_zero, Nat.reduceSub, Nat.reduceAdd, Nat.reduceLT, Nat.reduceLeDiff, Nat.reduceEqDiff, Nat.reduceMul, Nat.reducePow, Int.reduceLT, Int.reduceLE, Int.reduceAdd, Int.reduceMul, Int.reduceSub, Int.reduceNeg, Int.reduceEq, Int.reducePow, Int.reduceMod, Int.reduceDiv, Int.reduceToNat, decide_true, decide_false, and_true, true_and, and_self, Option.some.injEq, addV, iaddV, subV, mulV, fdivV, modV, powV, negV, cmpV, isNonV, notNonV, idxV, at0, at1, at2, at3, at4, at5, seqAt, lstAt, lenV, isiV, typV, kb1, kb2, kb3, kb4, kb5, kb6, kb7, kb8, kb9, kb10, kb11, e, atI_lt (xs := ns.map PV.int) (i := (k : Int)) (by omega) (by simpa using h)]
    simp [cellAt, List.getD_eq_getElem?_getD, List.getElem?_eq_getElem h]
  · have e : decide ((k : Int) < ((ns.map PV.int).length : Nat)) = false := by simp; omega
    simp only [b_L_cell_at, seqS, ifS, setS, augS, dropS, retS, retN, nxS, bkS, ctS, asgS, subS, R.toS, R.bind, R.of, opF, unF, varF, cstF, chF, isB, asB, andT, orT, notT, andF, orF, notF, ifF, nilA, consA, tupF, lstF, cbF, callF, bmF', truT, truV, nameG, nilG, consG, tupG, List.set_cons_zero, List.set_cons_succ, List.getElem?_cons_zero, List.getElem?_cons_succ, Option.bind_some, Option.bind_none, Option.map_some, Option.map_none, List.length_cons, List.length_nil, List.cons_append, List.nil_append, List.append_nil, if_true, if_false, ite_true, ite_false, Bool.false_eq_true, reduceIte, reduceCtorEq, List.map_cons, List.map_nil, Nat.sub_self, List.replicate_succ, List.replicate_zero, Nat.reduceSub, Nat.reduceAdd, Nat.reduceLT, Nat.reduceLeDiff, Nat.reduceEqDiff, Nat.reduceMul, Nat.reducePow, Int.reduceLT, Int.reduceLE, Int.reduceAdd, Int.reduceMul, Int.reduceSub, Int.reduceNeg, Int.reduceEq, Int.reducePow, Int.reduceMod, Int.reduceDiv, Int.reduceToNat, decide_true, decide_false, and_true, true_and, and_self, Option.some.injEq, addV, iaddV, subV, mulV, fdivV, modV, powV, negV, cmpV, isNonV, notNonV, idxV, at0, at1, at2, at3, at4, at5, seqAt, lstAt, lenV, isiV, typV, kb1, kb2, kb3, kb4, kb5, kb6, kb7, kb8, kb9, kb10, kb11, e]
    simp [cellAt, List.getD_eq_getElem?_getD, List.getElem?_eq_none (by omega : ns.length ≤ k)]
/-- a word of 1 to 8 signs -/
def wordL (m : Int) : List Nat :=
  let n := (1 + m % 8).toNat
  let a := (m / 8 % (1 + m % 8)).toNat
  List.replicate a (97 + (m / 1664 % 26).toNat) ++ [97 + (m / 64 % 26).toNat] ++ List.replicate (n - (a + 1)) (97 + (m / 1664 % 26).toNat)
def wordS (m : Int) : Str := S (wordL m)
theorem wordL_len (m : Int) : 1 ≤ (wordL m).length ∧ (wordL m).length ≤ 8 ∧ (wordL m).length = (1 + m % 8).toNat := by
  have h1 : 0 ≤ m % 8 ∧ m % 8 < 8 := ⟨Int.emod_nonneg _ (by decide), Int.emod_lt_of_pos _ (by decide)⟩
  have h2 : 0 ≤ m / 8 % (1 + m % 8) ∧ m / 8 % (1 + m % 8) < 1 + m % 8 := ⟨Int.emod_nonneg _ (by omega), Int.emod_lt_of_pos _ (by omega)⟩
  simp only [wordL, List.length_append, List.length_replicate, List.length_cons, List.length_nil]
  omega
theorem wordL_az (m : Int) : ∀ c ∈ wordL m, 97 ≤ c ∧ c < 123 := by
  have h1 : 0 ≤ m / 1664 % 26 ∧ m / 1664 % 26 < 26 := ⟨Int.emod_nonneg _ (by decide), Int.emod_lt_of_pos _ (by decide)⟩
  have h2 : 0 ≤ m / 64 % 26 ∧ m / 64 % 26 < 26 := ⟨Int.emod_nonneg _ (by decide), Int.emod_lt_of_pos _ (by decide)⟩
  intro c hc
  simp only [wordL, List.mem_append, List.mem_replicate, List.mem_singleton] at hc
  omega
theorem flat_one (n c : Nat) : (List.replicate n [c]).flatten = List.replicate n c := by
  induction n with
  | zero => rfl
  | succ n ih => rw [List.replicate_succ, List.flatten_cons, ih, List.replicate_succ]; rfl
theorem F_word {m : Int} {st : Store} (h0 : 0 ≤ m) : F_L_word [.int m] st = .ok (.str (wordS m)) st := by
  have h1 : 0 ≤ m % 8 ∧ m % 8 < 8 := ⟨Int.emod_nonneg _ (by decide), Int.emod_lt_of_pos _ (by decide)⟩
  have h2 : 0 ≤ m / 8 % (1 + m % 8) ∧ m / 8 % (1 + m % 8) < 1 + m % 8 := ⟨Int.emod_nonneg _ (by omega), Int.emod_lt_of_pos _ (by omega)⟩
  have h3 : 0 ≤ m / 1664 % 26 ∧ m / 1664 % 26 < 26 := ⟨Int.emod_nonneg _ (by decide), Int.emod_lt_of_pos _ (by decide)⟩
  have h4 : 0 ≤ m / 64 % 26 ∧ m / 64 % 26 < 26 := ⟨Int.emod_nonneg _ (by decide), Int.emod_lt_of_pos _ (by decide)⟩
  have l8 : Nat.log2 8 < 9000 := by decide
  have c1 : (0 < (8 : Int) ∧ (8 : Int).natAbs.log2 < 9000) := ⟨by decide, by decide⟩
  have c2 : (0 < (1664 : Int) ∧ (1664 : Int).natAbs.log2 < 9000) := ⟨by decide, by decide⟩
  have c3 : (0 < (64 : Int) ∧ (64 : Int).natAbs.log2 < 9000) := ⟨by decide, by decide⟩
  have c4 : (0 < 1 + m % 8) := by omega
  have c5 : 0 ≤ 1 + m % 8 ∧ 1 + m % 8 ≤ 1000 ∧ (S [97 + (m / 1664 % 26).toNat]).length ≤ 1000 := ⟨by omega, by omega, by rw [S_len]; simp⟩
  unfold F_L_word
  refine run_rt0 ?_ rfl
  have c6 : 0 ≤ 1 + m % 8 := by omega
  have c7 : (97 + (m / 1664 % 26).toNat) = 97 + (m / 1664 % 26).toNat := rfl
  have n1 : ¬ m / 8 % (1 + m % 8) < 0 := by omega
  simp only [b_L_word, seqS, ifS, setS, augS, dropS, retS, retN, nxS, bkS, ctS, asgS, subS, R.toS, R.bind, R.of, opF, unF, varF, cstF, chF, isB, asB, andT, orT, notT, andF, orF, notF, ifF, nilA, consA, tupF, lstF, cbF, callF, bmF', truT, truV, nameG, nilG, consG, tupG, List.set_cons_zero, List.set_cons_succ, List.getElem?_cons_zero, List.getElem?_cons_succ, Option.bind_some, Option.bind_none, Option.map_some, Option.map_none, List.length_cons, List.length_nil, List.cons_append, List.nil_append, List.append_nil, if_true, if_false, ite_true, ite_false, Bool.false_eq_true, reduceIte, reduceCtorEq, List.map_cons, List.map_nil, Nat.sub_self, List.replicate_succ, List.replicate_zero, Nat.reduceSub, Nat.reduceAdd, Nat.reduceLT, Nat.reduceLeDiff, Nat.reduceEqDiff, Nat.reduceMul, Nat.reducePow, Int.reduceLT, Int.reduceLE, Int.reduceAdd, Int.reduceMul, Int.reduceSub, Int.reduceNeg, Int.reduceEq, Int.reducePow, Int.reduceMod, Int.reduceDiv, Int.reduceToNat, decide_true, decide_false, and_true, true_and, and_self, Option.some.injEq, addV, iaddV, subV, mulV, fdivV, modV, powV, negV, cmpV, isNonV, notNonV, idxV, at0, at1, at2, at3, at4, at5, seqAt, lstAt, lenV, isiV, typV, kb1, kb2, kb3, kb4, kb5, kb6, kb7, kb8, kb9, kb10, kb11, sliF, noO, someO, asI, slV, cutP, c1, c2, c3, c4, letters_eq, S_cps, S_len, List.length_map, List.length_range, sizeLine_eq, letters_at h3.1 h3.2, letters_at h4.1 h4.2, S_one, S_mul _ _ c6, flat_one, List.length_replicate, S_cut, HT.sIx_none, sIx_some h2.1, sIx_some (show 0 ≤ m / 8 % (1 + m % 8) + 1 by omega), S_app, List.length_append, List.length_take, List.length_drop, c5, if_pos (show (1 + m % 8).toNat ≤ 16777216 by omega), List.drop_zero, List.take_replicate, List.drop_replicate]
  rw [if_pos (by omega)]
  simp only [S_app, S_len, List.length_append, List.length_replicate, List.length_cons, List.length_nil]
  rw [if_pos (by omega)]
  simp only [S_app]
  congr 3
  unfold wordL
  congr 2
  · congr 1
    omega
  · congr 1
    omega
/-- a number -/
def MOST : Int := 10 ^ 60 - 1
def numberI (c m : Int) : Int :=
  if m % 4 = 0 then c % 19 - 9
  else if m % 4 = 1 then m ^ 11 % (2 * MOST + 1) - MOST
  else if m % 4 = 2 then c % (2 * MOST + 1) - MOST
  else [MOST, -MOST, 10 ^ 59, -10 ^ 59, 10, 0].getD (m / 4 % 6).toNat 0
theorem F_number {c m : Int} {st : Store} (h0 : 0 ≤ m) (h1 : m < 2 ^ 64) : F_L_number [.int c, .int m] st = .ok (.int (numberI c m)) st := by
  have h2 : 0 ≤ m % 4 ∧ m % 4 < 4 := ⟨Int.emod_nonneg _ (by decide), Int.emod_lt_of_pos _ (by decide)⟩
  have h3 : 0 ≤ m / 4 % 6 ∧ m / 4 % 6 < 6 := ⟨Int.emod_nonneg _ (by decide), Int.emod_lt_of_pos _ (by decide)⟩
  have c1 : ((0 : Int) ≤ 60 ∧ (60 : Int) ≤ 1000000 ∧ (10 : Int).natAbs < 2 ^ 64) := by decide
  have c2 : ((0 : Int) ≤ 59 ∧ (59 : Int) ≤ 1000000 ∧ (10 : Int).natAbs < 2 ^ 64) := by decide
  have c3 : ((0 : Int) ≤ 11 ∧ (11 : Int) ≤ 1000000 ∧ m.natAbs < 2 ^ 64) := ⟨by decide, by decide, by omega⟩
  have c4 : mulOk 2 (10 ^ (60 : Int).toNat - 1) = true := by decide +kernel
  have c5 : (0 < (4 : Int) ∧ (4 : Int).natAbs.log2 < 9000) := by decide
  have c6 : (0 : Int) < 2 * (10 ^ (60 : Int).toNat - 1) + 1 := by decide
  unfold F_L_number numberI
  by_cases e0 : m % 4 = 0
  · refine run_rt0 ?_ rfl
    simp only [b_L_number, seqS, ifS, setS, augS, dropS, retS, retN, nxS, bkS, ctS, asgS, subS, R.toS, R.bind, R.of, opF, unF, varF, cstF, chF, isB, asB, andT, orT, notT, andF, orF, notF, ifF, nilA, consA, tupF, lstF, cbF, callF, bmF', truT, truV, nameG, nilG, consG, tupG, List.set_cons_zero, List.set_cons_succ, List.getElem?_cons_zero, List.getElem?_cons_succ, Option.bind_some, Option.bind_none, Option.map_some, Option.map_none, List.length_cons, List.length_nil, List.cons_append, List.nil_append, List.append_nil, if_true, if_false, ite_true, ite_false, Bool.false_eq_true, reduceIte, reduceCtorEq, List.map_cons, List.map_nil, Nat.sub_self, List.replicate_succ, List.replicate_zero, Nat.reduceSub, Nat.reduceAdd, Nat.reduceLT, Nat.reduceLeDiff, Nat.reduceEqDiff, Nat.reduceMul, Nat.reducePow, Int.reduceLT, Int.reduceLE, Int.reduceAdd, Int.reduceMul, Int.reduceSub, Int.reduceNeg, Int.reduceEq, Int.reducePow, Int.reduceMod, Int.reduceDiv, Int.reduceToNat, decide_true, decide_false, and_true, true_and, and_self, Option.some.injEq, addV, iaddV, subV, mulV, fdivV, modV, powV, negV, cmpV, isNonV, notNonV, eqV, neV, eqB, scEq, t1, t2, t3, t4, t5, t6, t7, t8, t9, t10, t11, t12, t13, t14, t15, t16, c1, e0]
  by_cases e1 : m % 4 = 1
  · refine run_rt0 ?_ rfl
    simp only [b_L_number, seqS, ifS, setS, augS, dropS, retS, retN, nxS, bkS, ctS, asgS, subS, R.toS, R.bind, R.of, opF, unF, varF, cstF, chF, isB, asB, andT, orT, notT, andF, orF, notF, ifF, nilA, consA, tupF, lstF, cbF, callF, bmF', truT, truV, nameG, nilG, consG, tupG, List.set_cons_zero, List.set_cons_succ, List.getElem?_cons_zero, List.getElem?_cons_succ, Option.bind_some, Option.bind_none, Option.map_some, Option.map_none, List.length_cons, List.length_nil, List.cons_append, List.nil_append, List.append_nil, if_true, if_false, ite_true, ite_false, Bool.false_eq_true, reduceIte, reduceCtorEq, List.map_cons, List.map_nil, Nat.sub_self, List.replicate_succ, List.replicate_zero, Nat.reduceSub, Nat.reduceAdd, Nat.reduceLT, Nat.reduceLeDiff, Nat.reduceEqDiff, Nat.reduceMul, Nat.reducePow, Int.reduceLT, Int.reduceLE, Int.reduceAdd, Int.reduceMul, Int.reduceSub, Int.reduceNeg, Int.reduceEq, Int.reducePow, Int.reduceMod, Int.reduceDiv, Int.reduceToNat, decide_true, decide_false, and_true, true_and, and_self, Option.some.injEq, addV, iaddV, subV, mulV, fdivV, modV, powV, negV, cmpV, isNonV, notNonV, eqV, neV, eqB, scEq, t1, t2, t3, t4, t5, t6, t7, t8, t9, t10, t11, t12, t13, t14, t15, t16, c1, e1, c3, c4, c6]
    rfl
  by_cases e2 : m % 4 = 2
  · refine run_rt0 ?_ rfl
    simp only [b_L_number, seqS, ifS, setS, augS, dropS, retS, retN, nxS, bkS, ctS, asgS, subS, R.toS, R.bind, R.of, opF, unF, varF, cstF, chF, isB, asB, andT, orT, notT, andF, orF, notF, ifF, nilA, consA, tupF, lstF, cbF, callF, bmF', truT, truV, nameG, nilG, consG, tupG, List.set_cons_zero, List.set_cons_succ, List.getElem?_cons_zero, List.getElem?_cons_succ, Option.bind_some, Option.bind_none, Option.map_some, Option.map_none, List.length_cons, List.length_nil, List.cons_append, List.nil_append, List.append_nil, if_true, if_false, ite_true, ite_false, Bool.false_eq_true, reduceIte, reduceCtorEq, List.map_cons, List.map_nil, Nat.sub_self, List.replicate_succ, List.replicate_zero, Nat.reduceSub, Nat.reduceAdd, Nat.reduceLT, Nat.reduceLeDiff, Nat.reduceEqDiff, Nat.reduceMul, Nat.reducePow, Int.reduceLT, Int.reduceLE, Int.reduceAdd, Int.reduceMul, Int.reduceSub, Int.reduceNeg, Int.reduceEq, Int.reducePow, Int.reduceMod, Int.reduceDiv, Int.reduceToNat, decide_true, decide_false, and_true, true_and, and_self, Option.some.injEq, addV, iaddV, subV, mulV, fdivV, modV, powV, negV, cmpV, isNonV, notNonV, eqV, neV, eqB, scEq, t1, t2, t3, t4, t5, t6, t7, t8, t9, t10, t11, t12, t13, t14, t15, t16, c1, e2, c4, c6]
    rfl
  · have e3 : m % 4 = 3 := by omega
    refine run_rt (g := [.lst [.int MOST, .int (-MOST), .int (10 ^ 59), .int (-10 ^ 59), .int 10, .int 0]]) ?_ rfl
    have e6 : m / 4 % 6 = 0 ∨ m / 4 % 6 = 1 ∨ m / 4 % 6 = 2 ∨ m / 4 % 6 = 3 ∨ m / 4 % 6 = 4 ∨ m / 4 % 6 = 5 := by omega
    rcases e6 with e | e | e | e | e | e <;>
      (simp only [b_L_number, seqS, ifS, setS, augS, dropS, retS, retN, nxS, bkS, ctS, asgS, subS, R.toS, R.bind, R.of, opF, unF, varF, cstF, chF, isB, asB, andT, orT, notT, andF, orF, notF, ifF, nilA, consA, tupF, lstF, cbF, callF, bmF', truT, truV, nameG, nilG, consG, tupG, List.set_cons_zero, List.set_cons_succ, List.getElem?_cons_zero, List.getElem?_cons_succ, Option.bind_some, Option.bind_none, Option.map_some, Option.map_none, List.length_cons, List.length_nil, List.cons_append, List.nil_append, List.append_nil, if_true, if_false, ite_true, ite_false, Bool.false_eq_true, reduceIte, reduceCtorEq, List.map_cons, List.map_nil, Nat.sub_self, List.replicate_succ, List.replicate_zero, Nat.reduceSub, Nat.reduceAdd, Nat.reduceLT, Nat.reduceLeDiff, Nat.reduceEqDiff, Nat.reduceMul, Nat.reducePow, Int.reduceLT, Int.reduceLE, Int.reduceAdd, Int.reduceMul, Int.reduceSub, Int.reduceNeg, Int.reduceEq, Int.reducePow, Int.reduceMod, Int.reduceDiv, Int.reduceToNat, decide_true, decide_false, and_true, true_and, and_self, Option.some.injEq, addV, iaddV, subV, mulV, fdivV, modV, powV, negV, cmpV, isNonV, notNonV, eqV, neV, eqB, scEq, t1, t2, t3, t4, t5, t6, t7, t8, t9, t10, t11, t12, t13, t14, t15, t16, idxV, at0, at1, at2, at3, at4, at5, seqAt, lstAt, lenV, isiV, typV, kb1, kb2, kb3, kb4, kb5, kb6, kb7, kb8, kb9, kb10, kb11, c1, c2, e3, c4, c5, c6, sizeLine_eq, getS0, e]; rfl)
/-- the whole numbers' look -/
theorem F_whole {a b : Int} {st : Store} : F_L_whole [.int a, .int b] st = .ok (.bl (decide (a = b))) st := by
  unfold F_L_whole
  refine run_rt0 ?_ rfl
  simp only [b_L_whole, seqS, ifS, setS, augS, dropS, retS, retN, nxS, bkS, ctS, asgS, subS, R.toS, R.bind, R.of, opF, unF, varF, cstF, chF, isB, asB, andT, orT, notT, andF, orF, notF, ifF, nilA, consA, tupF, lstF, cbF, callF, bmF', truT, truV, nameG, nilG, consG, tupG, List.set_cons_zero, List.set_cons_succ, List.getElem?_cons_zero, List.getElem?_cons_succ, Option.bind_some, Option.bind_none, Option.map_some, Option.map_none, List.length_cons, List.length_nil, List.cons_append, List.nil_append, List.append_nil, if_true, if_false, ite_true, ite_false, Bool.false_eq_true, reduceIte, reduceCtorEq, List.map_cons, List.map_nil, Nat.sub_self, List.replicate_succ, List.replicate_zero, Nat.reduceSub, Nat.reduceAdd, Nat.reduceLT, Nat.reduceLeDiff, Nat.reduceEqDiff, Nat.reduceMul, Nat.reducePow, Int.reduceLT, Int.reduceLE, Int.reduceAdd, Int.reduceMul, Int.reduceSub, Int.reduceNeg, Int.reduceEq, Int.reducePow, Int.reduceMod, Int.reduceDiv, Int.reduceToNat, decide_true, decide_false, and_true, true_and, and_self, Option.some.injEq, addV, iaddV, subV, mulV, fdivV, modV, powV, negV, cmpV, isNonV, notNonV, eqV, neV, eqB, scEq, t1, t2, t3, t4, t5, t6, t7, t8, t9, t10, t11, t12, t13, t14, t15, t16, idxV, at0, at1, at2, at3, at4, at5, seqAt, lstAt, lenV, isiV, typV, kb1, kb2, kb3, kb4, kb5, kb6, kb7, kb8, kb9, kb10, kb11, Bool.not_false]
theorem numberI_lt (c m : Int) (h0 : 0 ≤ m) : -(10 ^ 60) < numberI c m ∧ numberI c m < 10 ^ 60 := by
  have hM : MOST = 10 ^ 60 - 1 := rfl
  have h3 : 0 ≤ m / 4 % 6 ∧ m / 4 % 6 < 6 := ⟨Int.emod_nonneg _ (by decide), Int.emod_lt_of_pos _ (by decide)⟩
  unfold numberI
  split
  · have : 0 ≤ c % 19 ∧ c % 19 < 19 := ⟨Int.emod_nonneg _ (by decide), Int.emod_lt_of_pos _ (by decide)⟩
    omega
  split
  · have : 0 ≤ m ^ 11 % (2 * MOST + 1) ∧ m ^ 11 % (2 * MOST + 1) < 2 * MOST + 1 := ⟨Int.emod_nonneg _ (by decide), Int.emod_lt_of_pos _ (by decide)⟩
    omega
  split
  · have : 0 ≤ c % (2 * MOST + 1) ∧ c % (2 * MOST + 1) < 2 * MOST + 1 := ⟨Int.emod_nonneg _ (by decide), Int.emod_lt_of_pos _ (by decide)⟩
    omega
  · have e6 : m / 4 % 6 = 0 ∨ m / 4 % 6 = 1 ∨ m / 4 % 6 = 2 ∨ m / 4 % 6 = 3 ∨ m / 4 % 6 = 4 ∨ m / 4 % 6 = 5 := by omega
    rcases e6 with e | e | e | e | e | e <;> rw [e] <;> decide
end
end FL
end
section
set_option linter.all false
set_option maxRecDepth 100000
namespace FL
open PySem PySem.Spec PyProof.Rows L2
noncomputable section
/-! ## trees as texts -/
def IsW (x : Str) : Prop := ∃ l, x = S l ∧ 1 ≤ l.length ∧ l.length ≤ 8 ∧ ∀ c ∈ l, 97 ≤ c ∧ c < 123
theorem word_W (m : Int) : IsW (wordS m) := ⟨wordL m, rfl, (wordL_len m).1, (wordL_len m).2.1, wordL_az m⟩
theorem IsW.len {x : Str} (h : IsW x) : x.length ≤ 8 := by
  obtain ⟨l, rfl, _, h2, _⟩ := h
  rw [S_len]
  exact h2
mutual
def Tr.Fit : Tr → Prop
  | .num i => -(10 ^ 60) < i ∧ i < 10 ^ 60
  | .name x => IsW x
  | .any x => IsW x
  | .of w as => IsW w ∧ as.length ≤ 4 ∧ FitL as
def FitL : List Tr → Prop
  | [] => True
  | t :: r => t.Fit ∧ FitL r
end
mutual
def Tr.show : Tr → Str
  | .num i => (toString i)
  | .name x => x
  | .any x => "?" ++ x
  | .of w as => w ++ "(" ++ Txt.join ", " (shows as) ++ ")"
def shows : List Tr → List Str
  | [] => []
  | t :: r => t.show :: shows r
end
mutual
/-- no hole -/
def Tr.bare : Tr → Bool
  | .any _ => false
  | .of _ as => bareL as
  | _ => true
def bareL : List Tr → Bool
  | [] => true
  | t :: r => t.bare && bareL r
end
theorem shows_map (as : List Tr) : shows as = as.map Tr.show := by
  induction as with
  | nil => rfl
  | cons a r ih => rw [shows, ih, List.map_cons]
theorem FitL_iff {as : List Tr} : FitL as ↔ ∀ t ∈ as, t.Fit := by
  induction as with
  | nil => simp [FitL]
  | cons a r ih => simp [FitL, ih]
theorem partsL_app (a b : List Tr) : partsL (a ++ b) = partsL a + partsL b := by simp [partsL_eq]
theorem parts_pos (t : Tr) : 1 ≤ t.parts := by cases t <;> simp only [Tr.parts] <;> omega
theorem partsL_mem {as : List Tr} {a : Tr} (h : a ∈ as) : a.parts ≤ partsL as := by
  induction as with
  | nil => cases h
  | cons b r ih =>
    rw [partsL]
    rcases List.mem_cons.mp h with rfl | h
    · omega
    · have := ih h; omega
theorem join_len (sep : Str) : ∀ l : List Str, (Txt.join sep l).length ≤ (l.map (·.length)).sum + l.length * sep.length
  | [] => by show (PySem.Builtin.Str.glued sep []).length ≤ _; rw [StrLaws.glued_eq_join]; exact Nat.zero_le _
  | [x] => by
    show (PySem.Builtin.Str.glued sep [x]).length ≤ _
    rw [StrLaws.glued_eq_join]
    show x.length ≤ _
    simp
  | x :: y :: r => by
    have ih := join_len sep (y :: r)
    change (PySem.Builtin.Str.glued sep (y :: r)).length ≤ _ at ih
    show (PySem.Builtin.Str.glued sep (x :: y :: r)).length ≤ _
    rw [StrLaws.glued_eq_join] at ih ⊢
    show (x ++ sep ++ Str.join sep (y :: r)).length ≤ _
    rw [PySem.Str.length_append, PySem.Str.length_append, List.map_cons, List.sum_cons, List.length_cons, Nat.add_mul]
    omega
theorem num_log {i : Int} (h : -(10 ^ 60) < i ∧ i < 10 ^ 60) : i.natAbs.log2 < 1920 := by
  have h1 : i.natAbs < 2 ^ 200 := by
    have : (10 : Nat) ^ 60 < 2 ^ 200 := by decide
    omega
  have := log2_lt (k := 199) h1
  omega
theorem c2 : (", " : Str).length = 2 := rfl
mutual
theorem show_len : ∀ t : Tr, t.Fit → t.show.length + 2 ≤ 2000 * t.parts
  | .num i, h => by
    have h' : -(10 ^ 60) < i ∧ i < 10 ^ 60 := by simpa only [Tr.Fit] using h
    have := int_text_len_1921 (num_log h')
    simp only [Tr.show, Tr.parts]
    omega
  | .name x, h => by
    have := IsW.len (x := x) (by simpa only [Tr.Fit] using h)
    simp only [Tr.show, Tr.parts]
    omega
  | .any x, h => by
    have := IsW.len (x := x) (by simpa only [Tr.Fit] using h)
    simp only [Tr.show, Tr.parts, PySem.Str.length_append]
    have e : ("?" : Str).length = 1 := rfl
    omega
  | .of w as, h => by
    have h' : IsW w ∧ as.length ≤ 4 ∧ FitL as := by simpa only [Tr.Fit] using h
    have := h'.1.len
    have j := join_len ", " (shows as)
    have s := shows_len as h'.2.2
    simp only [Tr.show, Tr.parts, PySem.Str.length_append]
    have e : ("(" : Str).length = 1 := rfl
    have e' : (")" : Str).length = 1 := rfl
    rw [c2] at j
    omega
theorem shows_len : ∀ as : List Tr, FitL as → ((shows as).map (·.length)).sum + (shows as).length * 2 ≤ 2000 * partsL as
  | [], _ => by simp [shows]
  | t :: r, h => by
    have h' : t.Fit ∧ FitL r := by simpa only [FitL] using h
    have a := show_len t h'.1
    have b := shows_len r h'.2
    simp only [shows, partsL, List.map_cons, List.sum_cons, List.length_cons]
    omega
end
theorem strsOf_mapf {α : Type} (xs : List α) (f : α → Str) : strsOf (xs.map fun a => PV.str (f a)) = some (xs.map f) := by
  have := strsOf_map (xs.map f)
  rwa [List.map_map] at this
/-- the line of a knot -/
theorem joinV_ok {as : List Tr} {r : Nat} {st : Store} (hs : st[r]? = some (.lst (as.map fun a => .str a.show))) (hf : FitL as) (hp : partsL as ≤ 5000) :
    joinV (.str ", ") [.ref r] st = some (.str (Txt.join ", " (shows as)), st) := by
  have s := shows_len as hf
  have q : ((shows as).map (·.length)).sum + (shows as).length * (", " : Str).length ≤ 16777216 := by rw [c2]; omega
  simp only [joinV, seqAt, lstAt, hs, Option.bind_some, strsOf_mapf as Tr.show, ← shows_map, q, if_true]
theorem F_shown_ok : ∀ (n : Nat) (t : Tr) (st : Store), t.depth ≤ n → t.Fit → t.parts ≤ 5000 → F_shown n [t.pv] st = .ok (.str t.show) st := by
  intro n
  induction n with
  | zero => intro t st h; have := depth_pos t; omega
  | succ n ih =>
    intro t st h hf hp
    unfold F_shown
    cases t with
    | num i =>
      have h' : -(10 ^ 60) < i ∧ i < 10 ^ 60 := by simpa only [Tr.Fit] using hf
      refine run_rt0 ?_ rfl
      simp only [b_shown, Tr.pv, seqS, ifS, setS, augS, dropS, retS, retN, nxS, bkS, ctS, asgS, subS, R.toS, R.bind, R.of, opF, unF, varF, cstF, chF, isB, asB, andT, orT, notT, andF, orF, notF, ifF, nilA, consA, tupF, lstF, cbF, callF, bmF', truT, truV, nameG, nilG, consG, tupG, List.set_cons_zero, List.set_cons_succ, List.getElem?_cons_zero, List.getElem?_cons_succ, Option.bind_some, Option.bind_none, Option.map_some, Option.map_none, List.length_cons, List.length_nil, List.cons_append, List.nil_append, List.append_nil, if_true, if_false, ite_true, ite_false, Bool.false_eq_true, reduceIte, reduceCtorEq, List.map_cons, List.map_nil, Nat.sub_self, List.replicate_succ, List.replicate_zero, Nat.reduceSub, Nat.reduceAdd, Nat.reduceLT, Nat.reduceLeDiff, Nat.reduceEqDiff, Nat.reduceMul, Nat.reducePow, Int.reduceLT, Int.reduceLE, Int.reduceAdd, Int.reduceMul, Int.reduceSub, Int.reduceNeg, Int.reduceEq, Int.reducePow, Int.reduceMod, Int.reduceDiv, Int.reduceToNat, decide_true, decide_false, and_true, true_and, and_self, Option.some.injEq, addV, iaddV, subV, mulV, fdivV, modV, powV, negV, cmpV, isNonV, notNonV, eqV, neV, eqB, scEq, t1, t2, t3, t4, t5, t6, t7, t8, t9, t10, t11, t12, t13, t14, t15, t16, idxV, at0, at1, at2, at3, at4, at5, seqAt, lstAt, lenV, isiV, typV, kb1, kb2, kb3, kb4, kb5, kb6, kb7, kb8, kb9, kb10, kb11, Tr.show, strV, num_log h']
    | name i => refine run_rt0 ?_ rfl; simp only [b_shown, Tr.pv, seqS, ifS, setS, augS, dropS, retS, retN, nxS, bkS, ctS, asgS, subS, R.toS, R.bind, R.of, opF, unF, varF, cstF, chF, isB, asB, andT, orT, notT, andF, orF, notF, ifF, nilA, consA, tupF, lstF, cbF, callF, bmF', truT, truV, nameG, nilG, consG, tupG, List.set_cons_zero, List.set_cons_succ, List.getElem?_cons_zero, List.getElem?_cons_succ, Option.bind_some, Option.bind_none, Option.map_some, Option.map_none, List.length_cons, List.length_nil, List.cons_append, List.nil_append, List.append_nil, if_true, if_false, ite_true, ite_false, Bool.false_eq_true, reduceIte, reduceCtorEq, List.map_cons, List.map_nil, Nat.sub_self, List.replicate_succ, List.replicate_zero, Nat.reduceSub, Nat.reduceAdd, Nat.reduceLT, Nat.reduceLeDiff, Nat.reduceEqDiff, Nat.reduceMul, Nat.reducePow, Int.reduceLT, Int.reduceLE, Int.reduceAdd, Int.reduceMul, Int.reduceSub, Int.reduceNeg, Int.reduceEq, Int.reducePow, Int.reduceMod, Int.reduceDiv, Int.reduceToNat, decide_true, decide_false, and_true, true_and, and_self, Option.some.injEq, addV, iaddV, subV, mulV, fdivV, modV, powV, negV, cmpV, isNonV, notNonV, eqV, neV, eqB, scEq, t1, t2, t3, t4, t5, t6, t7, t8, t9, t10, t11, t12, t13, t14, t15, t16, idxV, at0, at1, at2, at3, at4, at5, seqAt, lstAt, lenV, isiV, typV, kb1, kb2, kb3, kb4, kb5, kb6, kb7, kb8, kb9, kb10, kb11, Tr.show]
    | any x =>
      have hx := IsW.len (x := x) (by simpa only [Tr.Fit] using hf)
      have e : ("?" : Str).length = 1 := rfl
      have hl : 1 + x.length ≤ 16777216 := by omega
      refine run_rt0 ?_ rfl
      simp only [b_shown, Tr.pv, seqS, ifS, setS, augS, dropS, retS, retN, nxS, bkS, ctS, asgS, subS, R.toS, R.bind, R.of, opF, unF, varF, cstF, chF, isB, asB, andT, orT, notT, andF, orF, notF, ifF, nilA, consA, tupF, lstF, cbF, callF, bmF', truT, truV, nameG, nilG, consG, tupG, List.set_cons_zero, List.set_cons_succ, List.getElem?_cons_zero, List.getElem?_cons_succ, Option.bind_some, Option.bind_none, Option.map_some, Option.map_none, List.length_cons, List.length_nil, List.cons_append, List.nil_append, List.append_nil, if_true, if_false, ite_true, ite_false, Bool.false_eq_true, reduceIte, reduceCtorEq, List.map_cons, List.map_nil, Nat.sub_self, List.replicate_succ, List.replicate_zero, Nat.reduceSub, Nat.reduceAdd, Nat.reduceLT, Nat.reduceLeDiff, Nat.reduceEqDiff, Nat.reduceMul, Nat.reducePow, Int.reduceLT, Int.reduceLE, Int.reduceAdd, Int.reduceMul, Int.reduceSub, Int.reduceNeg, Int.reduceEq, Int.reducePow, Int.reduceMod, Int.reduceDiv, Int.reduceToNat, decide_true, decide_false, and_true, true_and, and_self, Option.some.injEq, addV, iaddV, subV, mulV, fdivV, modV, powV, negV, cmpV, isNonV, notNonV, eqV, neV, eqB, scEq, t1, t2, t3, t4, t5, t6, t7, t8, t9, t10, t11, t12, t13, t14, t15, t16, idxV, at0, at1, at2, at3, at4, at5, seqAt, lstAt, lenV, isiV, typV, kb1, kb2, kb3, kb4, kb5, kb6, kb7, kb8, kb9, kb10, kb11, Tr.show, sizeLine_eq, e, hl]
    | of w as =>
      have h' : IsW w ∧ as.length ≤ 4 ∧ FitL as := by simpa only [Tr.Fit] using hf
      simp only [Tr.depth] at h
      simp only [Tr.parts] at hp
      have hw := h'.1.len
      have j := join_len ", " (shows as)
      have s := shows_len as h'.2.2
      rw [c2] at j
      have e1 : ("(" : Str).length = 1 := rfl
      have e2 : (")" : Str).length = 1 := rfl
      refine run_rt (g := [.lst (as.map fun a => .str a.show)]) ?_ rfl
      have hl := lcT (i := 0) (k := 1) (fi := opF idxV (varF 0) (cstF (.int 2))) (fe := b_shown_e1 (F_shown n)) (e := [some (Tr.of w as).pv, none]) (s := st) as Tr.pv (fun a => .str a.show) (by simp only [Tr.pv, pvs_map, seqS, ifS, setS, augS, dropS, retS, retN, nxS, bkS, ctS, asgS, subS, R.toS, R.bind, R.of, opF, unF, varF, cstF, chF, isB, asB, andT, orT, notT, andF, orF, notF, ifF, nilA, consA, tupF, lstF, cbF, callF, bmF', truT, truV, nameG, nilG, consG, tupG, List.set_cons_zero, List.set_cons_succ, List.getElem?_cons_zero, List.getElem?_cons_succ, Option.bind_some, Option.bind_none, Option.map_some, Option.map_none, List.length_cons, List.length_nil, List.cons_append, List.nil_append, List.append_nil, if_true, if_false, ite_true, ite_false, Bool.false_eq_true, reduceIte, reduceCtorEq, List.map_cons, List.map_nil, Nat.sub_self, List.replicate_succ, List.replicate_zero, Nat.reduceSub, Nat.reduceAdd, Nat.reduceLT, Nat.reduceLeDiff, Nat.reduceEqDiff, Nat.reduceMul, Nat.reducePow, Int.reduceLT, Int.reduceLE, Int.reduceAdd, Int.reduceMul, Int.reduceSub, Int.reduceNeg, Int.reduceEq, Int.reducePow, Int.reduceMod, Int.reduceDiv, Int.reduceToNat, decide_true, decide_false, and_true, true_and, and_self, Option.some.injEq, idxV, at0, at1, at2, at3, at4, at5, seqAt, lstAt, lenV, isiV, typV, kb1, kb2, kb3, kb4, kb5, kb6, kb7, kb8, kb9, kb10, kb11]) (by omega) (fun a ha acc => by
        have := partsL_mem ha
        simp only [b_shown_e1, wipeE, seqS, ifS, setS, augS, dropS, retS, retN, nxS, bkS, ctS, asgS, subS, R.toS, R.bind, R.of, opF, unF, varF, cstF, chF, isB, asB, andT, orT, notT, andF, orF, notF, ifF, nilA, consA, tupF, lstF, cbF, callF, bmF', truT, truV, nameG, nilG, consG, tupG, List.set_cons_zero, List.set_cons_succ, List.getElem?_cons_zero, List.getElem?_cons_succ, Option.bind_some, Option.bind_none, Option.map_some, Option.map_none, List.length_cons, List.length_nil, List.cons_append, List.nil_append, List.append_nil, if_true, if_false, ite_true, ite_false, Bool.false_eq_true, reduceIte, reduceCtorEq, List.map_cons, List.map_nil, Nat.sub_self, List.replicate_succ, List.replicate_zero, Nat.reduceSub, Nat.reduceAdd, Nat.reduceLT, Nat.reduceLeDiff, Nat.reduceEqDiff, Nat.reduceMul, Nat.reducePow, Int.reduceLT, Int.reduceLE, Int.reduceAdd, Int.reduceMul, Int.reduceSub, Int.reduceNeg, Int.reduceEq, Int.reducePow, Int.reduceMod, Int.reduceDiv, Int.reduceToNat, decide_true, decide_false, and_true, true_and, and_self, Option.some.injEq, ih a _ (Nat.le_trans (depthL_le ha) (by omega)) (FitL_iff.mp h'.2.2 a ha) (by omega)])
      simp only [Tr.pv] at hl
      have q1 : w.length + 1 ≤ 16777216 := by omega
      have q2 : w.length + 1 + (Txt.join ", " (shows as)).length ≤ 16777216 := by omega
      have q3 : w.length + 1 + (Txt.join ", " (shows as)).length + 1 ≤ 16777216 := by omega
      simp only [b_shown, Tr.pv, seqS, ifS, setS, augS, dropS, retS, retN, nxS, bkS, ctS, asgS, subS, R.toS, R.bind, R.of, opF, unF, varF, cstF, chF, isB, asB, andT, orT, notT, andF, orF, notF, ifF, nilA, consA, tupF, lstF, cbF, callF, bmF', truT, truV, nameG, nilG, consG, tupG, List.set_cons_zero, List.set_cons_succ, List.getElem?_cons_zero, List.getElem?_cons_succ, Option.bind_some, Option.bind_none, Option.map_some, Option.map_none, List.length_cons, List.length_nil, List.cons_append, List.nil_append, List.append_nil, if_true, if_false, ite_true, ite_false, Bool.false_eq_true, reduceIte, reduceCtorEq, List.map_cons, List.map_nil, Nat.sub_self, List.replicate_succ, List.replicate_zero, Nat.reduceSub, Nat.reduceAdd, Nat.reduceLT, Nat.reduceLeDiff, Nat.reduceEqDiff, Nat.reduceMul, Nat.reducePow, Int.reduceLT, Int.reduceLE, Int.reduceAdd, Int.reduceMul, Int.reduceSub, Int.reduceNeg, Int.reduceEq, Int.reducePow, Int.reduceMod, Int.reduceDiv, Int.reduceToNat, decide_true, decide_false, and_true, true_and, and_self, Option.some.injEq, addV, iaddV, subV, mulV, fdivV, modV, powV, negV, cmpV, isNonV, notNonV, eqV, neV, eqB, scEq, t1, t2, t3, t4, t5, t6, t7, t8, t9, t10, t11, t12, t13, t14, t15, t16, idxV, at0, at1, at2, at3, at4, at5, seqAt, lstAt, lenV, isiV, typV, kb1, kb2, kb3, kb4, kb5, kb6, kb7, kb8, kb9, kb10, kb11, Tr.show, hl, tyOk, beq_self_eq_true, joinV_ok (as := as) (r := st.length) (st := st ++ [.lst (as.map fun a => .str a.show)]) getS0 h'.2.2 (by omega), sizeLine_eq, e1, e2, PySem.Str.length_append, q1, q2, q3]
end
end FL
end
section
set_option linter.all false
set_option maxRecDepth 100000
namespace FL
open PySem PySem.Spec PyProof.Rows L2
noncomputable section
/-! ## walks that pass -/
theorem for_pass {fi : FI} {g : FG} {b : FS} {e : Env} {st s1 : Store} {xs : List PV} {gd : List (Nat × PO)} (P : Env → Prop) (hi : fi e st = .ok ⟨xs, gd⟩ s1) (hg : GdOk gd s1) (h0 : P e)
    (hs : ∀ (i : Nat) x e, xs[i]? = some x → P e → ∃ e1, g x e = some e1 ∧ ∃ e2, b e1 s1 = .nx e2 s1 ∧ P e2) : ∃ e', forS fi g b e st = .nx e' s1 ∧ P e' := by
  unfold forS
  rw [hi, toS_ok]
  obtain ⟨e', s', h1, rfl, h2⟩ := forL_inv (gd := gd) (g := g) (b := b) (xs := xs) (fun i e st => st = s1 ∧ P e) (e := e) (st := s1) ⟨rfl, h0⟩
    (fun i x e st hx ⟨h1, h2⟩ => by
      subst h1
      obtain ⟨e1, q1, e2, q2, q3⟩ := hs i x e hx h2
      exact ⟨hg, e1, q1, e2, _, q2, rfl, q3⟩) (fun e st ⟨h, _⟩ => by rw [h]; exact hg)
  exact ⟨e', h1, h2⟩
/-- over range(n) -/
theorem for_rng {f : FA} {i0 : Nat} {b : FS} {e : Env} {st : Store} {n : Nat} (P : Nat → Env → Prop) (Q : Nat → Store → Prop) (hi : f e st = .ok [.int (n : Int)] st) (hn : n < 1000000) (h0 : P 0 e) (q0 : Q 0 st)
    (hs : ∀ (i : Nat) e s, i < n → P i e → Q i s → ∃ e2 s2, b (e.set i0 (some (.int (i : Int)))) s = .nx e2 s2 ∧ P (i + 1) e2 ∧ Q (i + 1) s2) : ∃ e' s', forS (rng1I f) (nameG i0) b e st = .nx e' s' ∧ P n e' ∧ Q n s' := by
  have hw : rng1I f e st = .ok ⟨intL 0 1 n, []⟩ st := by
    have := rng1I_ok hi (by omega) (by omega)
    rwa [Int.toNat_natCast] at this
  unfold forS
  rw [hw, toS_ok]
  obtain ⟨e', s', h1, h2⟩ := forL_inv (gd := []) (g := nameG i0) (b := b) (xs := intL 0 1 n) (fun i e st => P i e ∧ Q i st) (e := e) (st := st) ⟨h0, q0⟩
    (fun i x e st hx ⟨h1, h2⟩ => by
      rw [intL_get] at hx
      split at hx
      · rename_i hi'
        cases hx
        rw [Int.mul_one, Int.zero_add]
        obtain ⟨e2, s2, a, b, c⟩ := hs i e st hi' h1 h2
        exact ⟨gd_nil _, _, rfl, e2, s2, a, b, c⟩
      · cases hx) (fun e st _ => gd_nil _)
  rw [intL_len] at h2
  exact ⟨e', s', h1, h2⟩
theorem seqI_ref {f : FE} {e : Env} {st s1 : Store} {r : Nat} {xs : List PV} (h : f e st = .ok (.ref r) s1) (hr : s1[r]? = some (.lst xs)) : seqI f e st = .ok ⟨xs, [(r, .lst xs)]⟩ s1 := by
  simp only [seqI, h, R.bind, seqAt, lstAt, hr, gdOf]
theorem gd1 {s : Store} {r : Nat} {o : PO} (h : s[r]? = some o) : GdOk [(r, o)] s := fun p hp => by
  rw [List.mem_singleton] at hp
  subst hp
  exact h
namespace Dt
open Classical
/-! ## plain data: None, ints, texts, tuples of them; equality -/
mutual
def dk : Nat → PV → Bool
  | 0, _ => false
  | n + 1, .non => true
  | n + 1, .int _ => true
  | n + 1, .str x => PyData.strOk x
  | n + 1, .tup xs => dks n xs
  | _, _ => false
def dks : Nat → List PV → Bool
  | _, [] => true
  | n, x :: xs => dk n x && dks n xs
end
theorem dks_iff {n : Nat} {xs : List PV} : dks n xs = true ↔ ∀ x ∈ xs, dk n x = true := by
  induction xs with
  | nil => simp [dks]
  | cons x xs ih => simp [dks, ih]
theorem dks_map {α : Type} {n : Nat} {f : α → PV} {as : List α} (h : ∀ a ∈ as, dk n (f a) = true) : dks n (as.map f) = true := dks_iff.mpr fun x hx => by
  obtain ⟨a, ha, rfl⟩ := List.mem_map.mp hx
  exact h a ha
/-! the data of a value -/
mutual
def dat : PV → PyData
  | .int i => .int i
  | .str x => .str x
  | .tup xs => .tuple (dats xs)
  | _ => .none
def dats : List PV → List PyData
  | [] => []
  | x :: xs => dat x :: dats xs
end
theorem toD_dk : ∀ (n : Nat) (v : PV) (s : Store) (k : Nat), dk n v = true → n ≤ k → toD k s v = some (dat v) := by
  intro n
  induction n with
  | zero => intro v s k h; simp [dk] at h
  | succ n ih =>
    intro v s k h hk
    obtain ⟨k, rfl⟩ : ∃ j, k = j + 1 := ⟨k - 1, by omega⟩
    cases v with
    | non => rfl
    | int i => rfl
    | str x => simp only [dk] at h; simp only [toD, h, if_true, dat]
    | tup xs =>
      simp only [dk] at h
      have key : ∀ xs : List PV, dks n xs = true → toDs (toD k s) xs = some (dats xs) := fun xs => by
        induction xs with
        | nil => intro _; rfl
        | cons x xs ihx =>
          intro h
          simp only [dks, Bool.and_eq_true] at h
          simp only [toDs, ih x s k h.1 (by omega), ihx h.2, dats]
      simp only [toD, key xs h, Option.map_some, dat]
    | _ => simp [dk] at h
theorem toDs_dk {n k : Nat} {s : Store} (hk : n ≤ k) : ∀ {xs : List PV}, dks n xs = true → toDs (toD k s) xs = some (dats xs)
  | [], _ => rfl
  | x :: xs, h => by
    simp only [dks, Bool.and_eq_true] at h
    simp only [toDs, toD_dk n x s k h.1 hk, toDs_dk hk h.2, dats]
theorem eqv_dat : ∀ (n : Nat) (v w : PV) (m : Nat), dk n v = true → dk m w = true → (PyData.eqv (dat v) (dat w) = true ↔ v = w) := by
  intro n
  induction n with
  | zero => intro v w m h; simp [dk] at h
  | succ n ih =>
    intro v w m hv hw
    obtain ⟨m, rfl⟩ : ∃ j, m = j + 1 := ⟨m - 1, by
      cases m with
      | zero => simp [dk] at hw
      | succ m => omega⟩
    have key : ∀ xs ys : List PV, dks n xs = true → dks m ys = true → (PyData.eqvAll (dats xs) (dats ys) = true ↔ xs = ys) := fun xs => by
      induction xs with
      | nil => intro ys _ _; cases ys <;> simp [dats, PyData.eqvAll]
      | cons x xs ihx =>
        intro ys h1 h2
        cases ys with
        | nil => simp [dats, PyData.eqvAll]
        | cons y ys =>
          simp only [dks, Bool.and_eq_true] at h1 h2
          simp only [dats, PyData.eqvAll, Bool.and_eq_true, ih x y m h1.1 h2.1, ihx ys h1.2 h2.2, List.cons.injEq]
    cases v <;> cases w <;> simp only [dk, Bool.false_eq_true] at hv hw <;> simp only [dat, PyData.eqv, beq_iff_eq, reduceCtorEq, Bool.false_eq_true, PV.int.injEq, PV.str.injEq, PV.tup.injEq, true_iff, iff_self]
    exact key _ _ hv hw
theorem scEq_dk {n m : Nat} {v w : PV} {b : Bool} (hv : dk n v = true) (hw : dk m w = true) (e : scEq v w = some b) : b = decide (v = w) := by
  cases v <;> cases w <;> simp only [scEq, Option.some.injEq, reduceCtorEq] at e <;> subst e <;> simp
theorem eqB_dk {n m : Nat} {v w : PV} {s : Store} (hv : dk n v = true) (hw : dk m w = true) (hn : n ≤ 64) (hm : m ≤ 64) : eqB v w s = some (decide (v = w)) := by
  unfold eqB
  cases e : scEq v w with
  | some b => simp only [scEq_dk hv hw e]
  | none =>
    simp only [toD_dk n v s 64 hv hn, toD_dk m w s 64 hw hm]
    have := eqv_dat n v w m hv hw
    by_cases q : v = w
    · rw [decide_eq_true q, this.mpr q]
    · rw [decide_eq_false q]
      cases c : PyData.eqv (dat v) (dat w) with
      | false => rfl
      | true => exact absurd (this.mp c) q
theorem eq_dk {n m : Nat} {v w : PV} {s : Store} (hv : dk n v = true) (hw : dk m w = true) (hn : n ≤ 64 := by decide) (hm : m ≤ 64 := by decide) : eqV v w s = some (.bl (decide (v = w)), s) := by
  unfold eqV
  rw [eqB_dk hv hw hn hm]
  rfl
theorem ne_dk {n m : Nat} {v w : PV} {s : Store} (hv : dk n v = true) (hw : dk m w = true) (hn : n ≤ 64 := by decide) (hm : m ≤ 64 := by decide) : neV v w s = some (.bl (!decide (v = w)), s) := by
  unfold neV
  rw [eqB_dk hv hw hn hm]
  rfl
/-! ### lists of them -/
theorem eqvAll_dats {n m : Nat} {xs ys : List PV} (h1 : dks n xs = true) (h2 : dks m ys = true) : (PyData.eqvAll (dats xs) (dats ys) = true ↔ xs = ys) := by
  have := eqv_dat (n + 1) (.tup xs) (.tup ys) (m + 1) (by simpa [dk] using h1) (by simpa [dk] using h2)
  simpa [dat, PyData.eqv] using this
theorem toD_lst {n k a : Nat} {xs : List PV} {s : Store} (h : s[a]? = some (.lst xs)) (hx : dks n xs = true) (hk : n < k) : toD k s (.ref a) = some (.list (dats xs)) := by
  obtain ⟨k, rfl⟩ : ∃ j, k = j + 1 := ⟨k - 1, by omega⟩
  simp only [toD, h, toDs_dk (show n ≤ k by omega) hx, Option.map_some]
theorem eqB_lst {n m a b : Nat} {xs ys : List PV} {s : Store} (ha : s[a]? = some (.lst xs)) (hb : s[b]? = some (.lst ys)) (hx : dks n xs = true) (hy : dks m ys = true) (hn : n < 64) (hm : m < 64) : eqB (.ref a) (.ref b) s = some (decide (xs = ys)) := by
  unfold eqB
  rw [show scEq (.ref a) (.ref b) = none from rfl]
  simp only [toD_lst ha hx hn, toD_lst hb hy hm]
  show some (PyData.eqvAll (dats xs) (dats ys)) = _
  have := eqvAll_dats hx hy
  by_cases q : xs = ys
  · rw [decide_eq_true q, this.mpr q]
  · rw [decide_eq_false q]
    cases c : PyData.eqvAll (dats xs) (dats ys) with
    | false => rfl
    | true => exact absurd (this.mp c) q
theorem eq_lst {n m a b : Nat} {xs ys : List PV} {s : Store} (ha : s[a]? = some (.lst xs)) (hb : s[b]? = some (.lst ys)) (hx : dks n xs = true) (hy : dks m ys = true) (hn : n < 64 := by decide) (hm : m < 64 := by decide) : eqV (.ref a) (.ref b) s = some (.bl (decide (xs = ys)), s) := by
  unfold eqV
  rw [eqB_lst ha hb hx hy hn hm]
  rfl
theorem ne_lst {n m a b : Nat} {xs ys : List PV} {s : Store} (ha : s[a]? = some (.lst xs)) (hb : s[b]? = some (.lst ys)) (hx : dks n xs = true) (hy : dks m ys = true) (hn : n < 64 := by decide) (hm : m < 64 := by decide) : neV (.ref a) (.ref b) s = some (.bl (!decide (xs = ys)), s) := by
  unfold neV
  rw [eqB_lst ha hb hx hy hn hm]
  rfl
/-! ### things that are the same -/
theorem eqv_self : ∀ (k : Nat) (s : Store) (x : PV) (d : PyData), toD k s x = some d → PyData.eqv d d = true := by
  intro k
  induction k with
  | zero => intro s x d h; cases h
  | succ k ih =>
    intro s x d h
    have key : ∀ (xs : List PV) (ds : List PyData), toDs (toD k s) xs = some ds → PyData.eqvAll ds ds = true := fun xs => by
      induction xs with
      | nil => intro ds h; simp only [toDs, Option.some.injEq] at h; subst h; rfl
      | cons x xs ihx =>
        intro ds h
        simp only [toDs] at h
        split at h
        · rename_i d ds' h1 h2
          cases h
          simp only [PyData.eqvAll, ih s x d h1, ihx ds' h2, Bool.and_self]
        · cases h
    cases x with
    | non => simp only [toD, Option.some.injEq] at h; subst h; rfl
    | bl b => simp only [toD, Option.some.injEq] at h; subst h; simp [PyData.eqv]
    | int b => simp only [toD, Option.some.injEq] at h; subst h; simp [PyData.eqv]
    | str b =>
      simp only [toD] at h
      split at h
      · cases h; simp [PyData.eqv]
      · cases h
    | tup xs =>
      simp only [toD] at h
      obtain ⟨ds, h1, rfl⟩ := Option.map_eq_some_iff.mp h
      simp only [PyData.eqv]
      exact key _ _ h1
    | frz xs =>
      simp only [toD] at h
      obtain ⟨ds, h1, rfl⟩ := Option.map_eq_some_iff.mp h
      simp only [PyData.eqv]
      exact key _ _ h1
    | ref n =>
      simp only [toD] at h
      split at h
      · obtain ⟨ds, h1, rfl⟩ := Option.map_eq_some_iff.mp h
        simp only [PyData.eqv]
        exact key _ _ h1
      · cases h
    | _ => cases h
theorem same_ref {a b : Nat} {s : Store} {d : PyData} (h1 : toD 64 s (.ref a) = some d) (h2 : toD 64 s (.ref b) = some d) : eqV (.ref a) (.ref b) s = some (.bl true, s) ∧ neV (.ref a) (.ref b) s = some (.bl false, s) := by
  unfold eqV neV eqB
  rw [show scEq (.ref a) (.ref b) = none from rfl]
  simp only [h1, h2, eqv_self _ _ _ _ h1]
  exact ⟨rfl, rfl⟩
/-- a list of lists of plain data -/
theorem toD_lst2 {n k a : Nat} {rs : List Nat} {xss : List (List PV)} {s : Store} (h : s[a]? = some (.lst (rs.map PV.ref))) (hl : rs.length = xss.length) (hx : ∀ (i : Nat) r xs, rs[i]? = some r → xss[i]? = some xs → s[r]? = some (.lst xs) ∧ dks n xs = true) (hk : n + 1 < k) :
    toD k s (.ref a) = some (.list (xss.map fun xs => .list (dats xs))) := by
  obtain ⟨k, rfl⟩ : ∃ j, k = j + 1 := ⟨k - 1, by omega⟩
  have key : ∀ (rs : List Nat) (xss : List (List PV)), rs.length = xss.length → (∀ (i : Nat) r xs, rs[i]? = some r → xss[i]? = some xs → s[r]? = some (.lst xs) ∧ dks n xs = true) → toDs (toD k s) (rs.map PV.ref) = some (xss.map fun xs => .list (dats xs)) := fun rs => by
    induction rs with
    | nil => intro xss hl _; cases xss with | nil => rfl | cons _ _ => cases hl
    | cons r rs ih =>
      intro xss hl hx
      cases xss with
      | nil => cases hl
      | cons xs xss =>
        obtain ⟨h1, h2⟩ := hx 0 r xs rfl rfl
        rw [List.map_cons, List.map_cons]
        simp only [toDs, toD_lst h1 h2 (show n < k by omega), ih xss (by simpa using hl) fun i r xs a b => hx (i + 1) r xs (by simpa using a) (by simpa using b)]
  simp only [toD, h, key rs xss hl hx, Option.map_some]
end Dt
end
end FL
end
section
set_option linter.all false
set_option maxRecDepth 100000
namespace FL
open PySem PySem.Spec PyProof.Rows L2
noncomputable section
namespace Ps
/-! ## a text is read: the parser over lists of signs -/
def isL (c : Nat) : Bool := decide (97 ≤ c) && decide (c < 123)
def isF (c : Nat) : Bool := decide (48 ≤ c) && decide (c < 58)
def pWord (r : List Nat) : Option (List Nat) := let w := r.takeWhile isL; if 1 ≤ w.length ∧ w.length ≤ 8 then some w else none
def pFigs (below : Bool) (f : List Nat) : Option (Int × Nat) :=
  if 1 ≤ f.length ∧ f.length ≤ 60 ∧ ¬ (f.head? = some 48 ∧ (below = true ∨ 1 < f.length)) then
    some (if below = true then (-((NumText.digitsVal f : Nat) : Int), 1 + f.length) else (((NumText.digitsVal f : Nat) : Int), f.length)) else none
def pNum (r : List Nat) : Option (Int × Nat) := if r.head? = some 45 then pFigs true (r.tail.takeWhile isF) else pFigs false (r.takeWhile isF)
def pArms (p : List Nat → Option (Tr × Nat)) : Nat → List Nat → Option (List Tr × Nat)
  | 0, _ => none
  | m + 1, r => match p r with
    | none => none
    | some (t, k) => if r[k]? = some 41 then some ([t], k + 1)
      else if r[k]? = some 44 ∧ r[k + 1]? = some 32 ∧ m ≠ 0 then (pArms p m (r.drop (k + 2))).map fun x => (t :: x.1, k + 2 + x.2) else none
def pKnot (p : List Nat → Option (Tr × Nat)) (r : List Nat) : Option (Tr × Nat) := match pWord r with
  | none => none
  | some w => if r[w.length]? = some 40 then (pArms p 4 (r.drop (w.length + 1))).map fun x => (.of (S w) x.1, w.length + 1 + x.2) else some (.name (S w), w.length)
def pTree (bare : Bool) : Nat → List Nat → Option (Tr × Nat)
  | 0, _ => none
  | d + 1, r => match r.head? with
    | none => none
    | some c => if c = 45 ∨ isF c = true then (pNum r).map fun x => (.num x.1, x.2)
      else if c = 63 ∧ bare = false then (pWord r.tail).map fun w => (.any (S w), 1 + w.length)
      else pKnot (pTree bare d) r
/-! ### signs of a text -/
theorem tw_lt {f : Nat → Bool} : ∀ {r : List Nat} {j : Nat}, j < (r.takeWhile f).length → ∃ c, r[j]? = some c ∧ f c = true
  | [], j, h => by simp at h
  | c :: r, j, h => by
    by_cases q : f c = true
    · rw [List.takeWhile_cons_of_pos q, List.length_cons] at h
      cases j with
      | zero => exact ⟨c, rfl, q⟩
      | succ j => exact tw_lt (r := r) (j := j) (by omega)
    · rw [List.takeWhile_cons_of_neg q] at h
      simp at h
theorem tw_eq {f : Nat → Bool} : ∀ {r : List Nat} {c : Nat}, r[(r.takeWhile f).length]? = some c → f c = false
  | [], c, h => by simp at h
  | a :: r, c, h => by
    by_cases q : f a = true
    · rw [List.takeWhile_cons_of_pos q, List.length_cons, List.getElem?_cons_succ] at h
      exact tw_eq (r := r) h
    · rw [List.takeWhile_cons_of_neg q] at h
      simp only [List.length_nil, List.getElem?_cons_zero, Option.some.injEq] at h
      subst h
      simpa using q
theorem tw_take {f : Nat → Bool} : ∀ {r : List Nat}, r.take (r.takeWhile f).length = r.takeWhile f
  | [] => rfl
  | a :: r => by
    by_cases q : f a = true
    · rw [List.takeWhile_cons_of_pos q, List.length_cons, List.take_succ_cons, tw_take (r := r)]
    · rw [List.takeWhile_cons_of_neg q]; rfl
theorem tw_len {f : Nat → Bool} {r : List Nat} : (r.takeWhile f).length ≤ r.length := (List.takeWhile_sublist f).length_le
theorem tw_all {f : Nat → Bool} {r : List Nat} : ∀ c ∈ r.takeWhile f, f c = true := fun c hc => by
  obtain ⟨j, hj, rfl⟩ := List.getElem_of_mem hc
  obtain ⟨c, h1, h2⟩ := tw_lt (f := f) (r := r) hj
  have : (r.takeWhile f)[j]? = some c := by
    rw [← tw_take (f := f) (r := r), List.getElem?_take, if_pos hj, h1]
  rw [List.getElem?_eq_getElem hj] at this
  cases this
  exact h2
theorem sl_ok {l : List Nat} {p n : Nat} {s : Store} (hl : l.length ≤ 16777216) (hp : p ≤ l.length) : slV (.str (S l)) (some (p : Int)) (some ((p : Int) + (n : Int))) s = some (.str (S ((l.drop p).take n)), s) := by
  have e : cutS (S l) (some (p : Int)) (some ((p : Int) + (n : Int))) = S ((l.drop p).take n) := by
    rw [S_cut, sIx_some (by omega), sIx_some (by omega)]
    congr 1
    rw [show min (p : Int).toNat l.length = p by omega]
    rw [List.take_eq_take_iff, List.length_drop]
    omega
  simp only [slV, S_len, sizeLine_eq, hl, if_true, e]
theorem ix_ok {l : List Nat} {p c : Nat} {s : Store} (hl : l.length ≤ 16777216) (h : l[p]? = some c) : idxV (.str (S l)) (.int (p : Int)) s = some (.str (S [c]), s) := by
  have : atI l (p : Int) = some c := atI_nat' (by omega) (by rw [Int.toNat_natCast]; exact h)
  simp only [idxV, S_len, sizeLine_eq, hl, if_true, S_cps, this, Option.map_some]
  rfl
theorem in_one {c : Nat} {g : List Nat} {s : Store} : inV (.str (S [c])) (.str (S g)) s = some (.bl (decide (c ∈ g)), s) := by
  have : inB (.str (S [c])) (.str (S g)) s = some (decide (c ∈ g)) := by
    show (if (S [c]).cps.size = 1 then some (decide ((S [c]).cps.getD 0 0 ∈ (S g).cps.toList)) else some (!(Builtin.Str.occurrences (S g) (S [c]) 0 (S g).length 1).isEmpty)) = _
    rw [if_pos (show (S [c]).cps.size = 1 from rfl), S_cps]
    rfl
  unfold inV
  rw [this]
  rfl
theorem nin_one {c : Nat} {g : List Nat} {s : Store} : ninV (.str (S [c])) (.str (S g)) s = some (.bl (!decide (c ∈ g)), s) := by
  have : inB (.str (S [c])) (.str (S g)) s = some (decide (c ∈ g)) := by
    show (if (S [c]).cps.size = 1 then some (decide ((S [c]).cps.getD 0 0 ∈ (S g).cps.toList)) else some (!(Builtin.Str.occurrences (S g) (S [c]) 0 (S g).length 1).isEmpty)) = _
    rw [if_pos (show (S [c]).cps.size = 1 from rfl), S_cps]
    rfl
  unfold ninV
  rw [this]
  rfl
theorem az_mem {c : Nat} : c ∈ (List.range 26).map (· + 97) ↔ isL c = true := by
  unfold isL
  simp only [List.mem_map, List.mem_range, Bool.and_eq_true, decide_eq_true_eq]
  exact ⟨fun ⟨a, h1, h2⟩ => by omega, fun h => ⟨c - 97, by omega, by omega⟩⟩
theorem figs_eq : ("0123456789" : Str) = S ((List.range 10).map (· + 48)) := by decide +kernel
theorem fig_mem {c : Nat} : c ∈ (List.range 10).map (· + 48) ↔ isF c = true := by
  unfold isF
  simp only [List.mem_map, List.mem_range, Bool.and_eq_true, decide_eq_true_eq]
  exact ⟨fun ⟨a, h1, h2⟩ => by omega, fun h => ⟨c - 48, by omega, by omega⟩⟩
theorem F_run {l g : List Nat} {f : Nat → Bool} {p : Nat} {s : Store} (hg : ∀ c, c ∈ g ↔ f c = true) (hl : l.length ≤ 200000) (hp : p ≤ l.length) : F_run_of [.str (S l), .int (p : Int), .str (S g)] s = .ok (.str (S ((l.drop p).takeWhile f))) s := by
  obtain ⟨w, hw⟩ : ∃ w, w = (l.drop p).takeWhile f := ⟨_, rfl⟩
  have wl : w.length ≤ l.length - p := by rw [hw, ← List.length_drop]; exact tw_len
  have hgd : ∀ c, decide (c ∈ g) = f c := fun c => by
    cases h : f c with
    | true => exact decide_eq_true ((hg c).mpr h)
    | false => exact decide_eq_false fun z => by rw [(hg c).mp z] at h; cases h
  have key : whS b_run_of_t1 b_run_of_s2 [some (.str (S l)), some (.int (p : Int)), some (.str (S g)), some (.int (p : Int))] s = .nx [some (.str (S l)), some (.int (p : Int)), some (.str (S g)), some (.int ((p : Int) + (w.length : Nat)))] s := by
    refine whS_wp (fun r => r = .nx [some (.str (S l)), some (.int (p : Int)), some (.str (S g)), some (.int ((p : Int) + (w.length : Nat)))] s)
      (fun e st => st = s ∧ ∃ j, j ≤ w.length ∧ e = [some (.str (S l)), some (.int (p : Int)), some (.str (S g)), some (.int ((p + j : Nat) : Int))])
      (fun e _ => match e with
        | [_, _, _, some (.int i)] => l.length - i.toNat
        | _ => 0) ⟨rfl, 0, Nat.zero_le _, rfl⟩ (by show l.length - _ < 1000000; omega) fun e st ⟨h1, j, hj, h2⟩ => ?_
    subst h1 h2
    by_cases q : j < w.length
    · obtain ⟨c, c1, c2⟩ := tw_lt (f := f) (r := l.drop p) (j := j) (by rw [← hw]; exact q)
      rw [List.getElem?_drop] at c1
      have lt : ((p + j : Nat) : Int) < (l.length : Nat) := by omega
      have ix := ix_ok (s := st) (show l.length ≤ 16777216 by omega) c1
      refine ⟨true, st, ?_, ?_⟩
      · simp only [b_run_of_t1, seqS, ifS, setS, augS, dropS, retS, retN, nxS, bkS, ctS, asgS, subS, R.toS, R.bind, R.of, opF, unF, varF, cstF, chF, isB, asB, andT, orT, notT, andF, orF, notF, ifF, nilA, consA, tupF, lstF, cbF, callF, bmF', truT, truV, nameG, nilG, consG, tupG, List.set_cons_zero, List.set_cons_succ, List.getElem?_cons_zero, List.getElem?_cons_succ, Option.bind_some, Option.bind_none, Option.map_some, Option.map_none, List.length_cons, List.length_nil, List.cons_append, List.nil_append, List.append_nil, if_true, if_false, ite_true, ite_false, Bool.false_eq_true, reduceIte, reduceCtorEq, List.map_cons, List.map_nil, Nat.sub_self, List.replicate_succ, List.replicate_zero, Nat.reduceSub, Nat.reduceAdd, Nat.reduceLT, Nat.reduceLeDiff, Nat.reduceEqDiff, Nat.reduceMul, Nat.reducePow, Int.reduceLT, Int.reduceLE, Int.reduceAdd, Int.reduceMul, Int.reduceSub, Int.reduceNeg, Int.reduceEq, Int.reducePow, Int.reduceMod, Int.reduceDiv, Int.reduceToNat, decide_true, decide_false, and_true, true_and, and_self, Option.some.injEq, ltV, cmpV, lenV, S_len, sizeLine_eq, show l.length ≤ 16777216 by omega, lt, ix, in_one, hgd, c2]
      · rw [if_pos rfl]
        have : b_run_of_s2 [some (.str (S l)), some (.int (p : Int)), some (.str (S g)), some (.int ((p + j : Nat) : Int))] st = .nx [some (.str (S l)), some (.int (p : Int)), some (.str (S g)), some (.int ((p + (j + 1) : Nat) : Int))] st := by
          simp only [b_run_of_s2, seqS, ifS, setS, augS, dropS, retS, retN, nxS, bkS, ctS, asgS, subS, R.toS, R.bind, R.of, opF, unF, varF, cstF, chF, isB, asB, andT, orT, notT, andF, orF, notF, ifF, nilA, consA, tupF, lstF, cbF, callF, bmF', truT, truV, nameG, nilG, consG, tupG, List.set_cons_zero, List.set_cons_succ, List.getElem?_cons_zero, List.getElem?_cons_succ, Option.bind_some, Option.bind_none, Option.map_some, Option.map_none, List.length_cons, List.length_nil, List.cons_append, List.nil_append, List.append_nil, if_true, if_false, ite_true, ite_false, Bool.false_eq_true, reduceIte, reduceCtorEq, List.map_cons, List.map_nil, Nat.sub_self, List.replicate_succ, List.replicate_zero, Nat.reduceSub, Nat.reduceAdd, Nat.reduceLT, Nat.reduceLeDiff, Nat.reduceEqDiff, Nat.reduceMul, Nat.reducePow, Int.reduceLT, Int.reduceLE, Int.reduceAdd, Int.reduceMul, Int.reduceSub, Int.reduceNeg, Int.reduceEq, Int.reducePow, Int.reduceMod, Int.reduceDiv, Int.reduceToNat, decide_true, decide_false, and_true, true_and, and_self, Option.some.injEq, iaddV, addV]
          rfl
        rw [this]
        refine ⟨⟨rfl, j + 1, by omega, rfl⟩, ?_⟩
        show l.length - ((p + (j + 1) : Nat) : Int).toNat < l.length - ((p + j : Nat) : Int).toNat
        omega
    · have ej : j = w.length := by omega
      refine ⟨false, st, ?_, ?_⟩
      · by_cases lt : p + j < l.length
        · have lt' : ((p + j : Nat) : Int) < (l.length : Nat) := by omega
          obtain ⟨c, hc⟩ : ∃ c, l[p + j]? = some c := ⟨_, List.getElem?_eq_getElem lt⟩
          have ix := ix_ok (s := st) (show l.length ≤ 16777216 by omega) hc
          have fc : f c = false := tw_eq (r := l.drop p) (by rw [← hw, List.getElem?_drop, ← ej]; exact hc)
          simp only [b_run_of_t1, seqS, ifS, setS, augS, dropS, retS, retN, nxS, bkS, ctS, asgS, subS, R.toS, R.bind, R.of, opF, unF, varF, cstF, chF, isB, asB, andT, orT, notT, andF, orF, notF, ifF, nilA, consA, tupF, lstF, cbF, callF, bmF', truT, truV, nameG, nilG, consG, tupG, List.set_cons_zero, List.set_cons_succ, List.getElem?_cons_zero, List.getElem?_cons_succ, Option.bind_some, Option.bind_none, Option.map_some, Option.map_none, List.length_cons, List.length_nil, List.cons_append, List.nil_append, List.append_nil, if_true, if_false, ite_true, ite_false, Bool.false_eq_true, reduceIte, reduceCtorEq, List.map_cons, List.map_nil, Nat.sub_self, List.replicate_succ, List.replicate_zero, Nat.reduceSub, Nat.reduceAdd, Nat.reduceLT, Nat.reduceLeDiff, Nat.reduceEqDiff, Nat.reduceMul, Nat.reducePow, Int.reduceLT, Int.reduceLE, Int.reduceAdd, Int.reduceMul, Int.reduceSub, Int.reduceNeg, Int.reduceEq, Int.reducePow, Int.reduceMod, Int.reduceDiv, Int.reduceToNat, decide_true, decide_false, and_true, true_and, and_self, Option.some.injEq, ltV, cmpV, lenV, S_len, sizeLine_eq, show l.length ≤ 16777216 by omega, lt', ix, in_one, hgd, fc]
        · have lt' : ¬ ((p + j : Nat) : Int) < (l.length : Nat) := by omega
          simp only [b_run_of_t1, seqS, ifS, setS, augS, dropS, retS, retN, nxS, bkS, ctS, asgS, subS, R.toS, R.bind, R.of, opF, unF, varF, cstF, chF, isB, asB, andT, orT, notT, andF, orF, notF, ifF, nilA, consA, tupF, lstF, cbF, callF, bmF', truT, truV, nameG, nilG, consG, tupG, List.set_cons_zero, List.set_cons_succ, List.getElem?_cons_zero, List.getElem?_cons_succ, Option.bind_some, Option.bind_none, Option.map_some, Option.map_none, List.length_cons, List.length_nil, List.cons_append, List.nil_append, List.append_nil, if_true, if_false, ite_true, ite_false, Bool.false_eq_true, reduceIte, reduceCtorEq, List.map_cons, List.map_nil, Nat.sub_self, List.replicate_succ, List.replicate_zero, Nat.reduceSub, Nat.reduceAdd, Nat.reduceLT, Nat.reduceLeDiff, Nat.reduceEqDiff, Nat.reduceMul, Nat.reducePow, Int.reduceLT, Int.reduceLE, Int.reduceAdd, Int.reduceMul, Int.reduceSub, Int.reduceNeg, Int.reduceEq, Int.reducePow, Int.reduceMod, Int.reduceDiv, Int.reduceToNat, decide_true, decide_false, and_true, true_and, and_self, Option.some.injEq, ltV, cmpV, lenV, S_len, sizeLine_eq, show l.length ≤ 16777216 by omega, lt']
      · rw [if_neg (by simp), ej]
        rfl
  have sl := sl_ok (l := l) (p := p) (n := w.length) (s := s) (by omega) hp
  have tk : (l.drop p).take w.length = w := by rw [hw]; exact tw_take
  rw [tk] at sl
  rw [← hw]
  unfold F_run_of
  refine run_rt0 ?_ rfl
  unfold b_run_of
  refine (seqS_nx (e1 := [some (.str (S l)), some (.int (p : Int)), some (.str (S g)), some (.int (p : Int))]) (s1 := s) (by simp only [seqS, ifS, setS, augS, dropS, retS, retN, nxS, bkS, ctS, asgS, subS, R.toS, R.bind, R.of, opF, unF, varF, cstF, chF, isB, asB, andT, orT, notT, andF, orF, notF, ifF, nilA, consA, tupF, lstF, cbF, callF, bmF', truT, truV, nameG, nilG, consG, tupG, List.set_cons_zero, List.set_cons_succ, List.getElem?_cons_zero, List.getElem?_cons_succ, Option.bind_some, Option.bind_none, Option.map_some, Option.map_none, List.length_cons, List.length_nil, List.cons_append, List.nil_append, List.append_nil, if_true, if_false, ite_true, ite_false, Bool.false_eq_true, reduceIte, reduceCtorEq, List.map_cons, List.map_nil, Nat.sub_self, List.replicate_succ, List.replicate_zero, Nat.reduceSub, Nat.reduceAdd, Nat.reduceLT, Nat.reduceLeDiff, Nat.reduceEqDiff, Nat.reduceMul, Nat.reducePow, Int.reduceLT, Int.reduceLE, Int.reduceAdd, Int.reduceMul, Int.reduceSub, Int.reduceNeg, Int.reduceEq, Int.reducePow, Int.reduceMod, Int.reduceDiv, Int.reduceToNat, decide_true, decide_false, and_true, true_and, and_self, Option.some.injEq])).trans ?_
  refine (seqS_nx key).trans ?_
  simp only [seqS, ifS, setS, augS, dropS, retS, retN, nxS, bkS, ctS, asgS, subS, R.toS, R.bind, R.of, opF, unF, varF, cstF, chF, isB, asB, andT, orT, notT, andF, orF, notF, ifF, nilA, consA, tupF, lstF, cbF, callF, bmF', truT, truV, nameG, nilG, consG, tupG, List.set_cons_zero, List.set_cons_succ, List.getElem?_cons_zero, List.getElem?_cons_succ, Option.bind_some, Option.bind_none, Option.map_some, Option.map_none, List.length_cons, List.length_nil, List.cons_append, List.nil_append, List.append_nil, if_true, if_false, ite_true, ite_false, Bool.false_eq_true, reduceIte, reduceCtorEq, List.map_cons, List.map_nil, Nat.sub_self, List.replicate_succ, List.replicate_zero, Nat.reduceSub, Nat.reduceAdd, Nat.reduceLT, Nat.reduceLeDiff, Nat.reduceEqDiff, Nat.reduceMul, Nat.reducePow, Int.reduceLT, Int.reduceLE, Int.reduceAdd, Int.reduceMul, Int.reduceSub, Int.reduceNeg, Int.reduceEq, Int.reducePow, Int.reduceMod, Int.reduceDiv, Int.reduceToNat, decide_true, decide_false, and_true, true_and, and_self, Option.some.injEq, sliF, someO, asI, sl]
theorem F_is_word {w : List Nat} {s : Store} (hw : ∀ c ∈ w, isL c = true) (hl : w.length ≤ 200000) : FL.F_is_word [.str (S w)] s = .ok (.bl (decide (1 ≤ w.length ∧ w.length ≤ 8))) s := by
  unfold FL.F_is_word
  refine run_rt0 ?_ rfl
  have hle : w.length ≤ 16777216 := by omega
  by_cases q : 1 ≤ w.length ∧ w.length ≤ 8
  · have q1 : (1 : Int) ≤ (w.length : Nat) := by omega
    have q2 : ((w.length : Nat) : Int) ≤ 8 := by omega
    obtain ⟨e', h1, o, he⟩ := for_pass (fi := strI (varF 0)) (g := nameG 1) (b := b_is_word_s1) (e := [some (.str (S w)), none]) (st := s) (s1 := s) (xs := w.map fun c => .str (S [c])) (gd := []) (fun e => ∃ o, e = [some (.str (S w)), o])
      (by simp only [strI, varF, List.getElem?_cons_zero, R.bind, S_cps]; rfl) (gd_nil _) ⟨none, rfl⟩
      (fun i x e hx ⟨o, he⟩ => by
        subst he
        rw [List.getElem?_map] at hx
        obtain ⟨c, hc, rfl⟩ := Option.map_eq_some_iff.mp hx
        have m := decide_eq_true (az_mem.mpr (hw c (List.mem_of_getElem? hc)))
        exact ⟨_, rfl, [some (.str (S w)), some (.str (S [c]))], by simp only [b_is_word_s1, letters_eq, seqS, ifS, setS, augS, dropS, retS, retN, nxS, bkS, ctS, asgS, subS, R.toS, R.bind, R.of, opF, unF, varF, cstF, chF, isB, asB, andT, orT, notT, andF, orF, notF, ifF, nilA, consA, tupF, lstF, cbF, callF, bmF', truT, truV, nameG, nilG, consG, tupG, List.set_cons_zero, List.set_cons_succ, List.getElem?_cons_zero, List.getElem?_cons_succ, Option.bind_some, Option.bind_none, Option.map_some, Option.map_none, List.length_cons, List.length_nil, List.cons_append, List.nil_append, List.append_nil, if_true, if_false, ite_true, ite_false, Bool.false_eq_true, reduceIte, reduceCtorEq, List.map_cons, List.map_nil, Nat.sub_self, List.replicate_succ, List.replicate_zero, Nat.reduceSub, Nat.reduceAdd, Nat.reduceLT, Nat.reduceLeDiff, Nat.reduceEqDiff, Nat.reduceMul, Nat.reducePow, Int.reduceLT, Int.reduceLE, Int.reduceAdd, Int.reduceMul, Int.reduceSub, Int.reduceNeg, Int.reduceEq, Int.reducePow, Int.reduceMod, Int.reduceDiv, Int.reduceToNat, decide_true, decide_false, and_true, true_and, and_self, Option.some.injEq, nin_one, m, Bool.not_true], _, rfl⟩)
    subst he
    unfold b_is_word
    refine (seqS_nx (e1 := [some (.str (S w)), none]) (s1 := s) (by simp only [seqS, ifS, setS, augS, dropS, retS, retN, nxS, bkS, ctS, asgS, subS, R.toS, R.bind, R.of, opF, unF, varF, cstF, chF, isB, asB, andT, orT, notT, andF, orF, notF, ifF, nilA, consA, tupF, lstF, cbF, callF, bmF', truT, truV, nameG, nilG, consG, tupG, List.set_cons_zero, List.set_cons_succ, List.getElem?_cons_zero, List.getElem?_cons_succ, Option.bind_some, Option.bind_none, Option.map_some, Option.map_none, List.length_cons, List.length_nil, List.cons_append, List.nil_append, List.append_nil, if_true, if_false, ite_true, ite_false, Bool.false_eq_true, reduceIte, reduceCtorEq, List.map_cons, List.map_nil, Nat.sub_self, List.replicate_succ, List.replicate_zero, Nat.reduceSub, Nat.reduceAdd, Nat.reduceLT, Nat.reduceLeDiff, Nat.reduceEqDiff, Nat.reduceMul, Nat.reducePow, Int.reduceLT, Int.reduceLE, Int.reduceAdd, Int.reduceMul, Int.reduceSub, Int.reduceNeg, Int.reduceEq, Int.reducePow, Int.reduceMod, Int.reduceDiv, Int.reduceToNat, decide_true, decide_false, and_true, true_and, and_self, Option.some.injEq, chF, leV, cmpV, lenV, S_len, sizeLine_eq, hle, q1, q2, Bool.not_true])).trans ?_
    refine (seqS_nx h1).trans ?_
    rw [decide_eq_true q]
    simp only [seqS, ifS, setS, augS, dropS, retS, retN, nxS, bkS, ctS, asgS, subS, R.toS, R.bind, R.of, opF, unF, varF, cstF, chF, isB, asB, andT, orT, notT, andF, orF, notF, ifF, nilA, consA, tupF, lstF, cbF, callF, bmF', truT, truV, nameG, nilG, consG, tupG, List.set_cons_zero, List.set_cons_succ, List.getElem?_cons_zero, List.getElem?_cons_succ, Option.bind_some, Option.bind_none, Option.map_some, Option.map_none, List.length_cons, List.length_nil, List.cons_append, List.nil_append, List.append_nil, if_true, if_false, ite_true, ite_false, Bool.false_eq_true, reduceIte, reduceCtorEq, List.map_cons, List.map_nil, Nat.sub_self, List.replicate_succ, List.replicate_zero, Nat.reduceSub, Nat.reduceAdd, Nat.reduceLT, Nat.reduceLeDiff, Nat.reduceEqDiff, Nat.reduceMul, Nat.reducePow, Int.reduceLT, Int.reduceLE, Int.reduceAdd, Int.reduceMul, Int.reduceSub, Int.reduceNeg, Int.reduceEq, Int.reducePow, Int.reduceMod, Int.reduceDiv, Int.reduceToNat, decide_true, decide_false, and_true, true_and, and_self, Option.some.injEq]
  · rw [decide_eq_false q]
    by_cases q1 : (1 : Int) ≤ (w.length : Nat)
    · have q2 : ¬ ((w.length : Nat) : Int) ≤ 8 := by omega
      simp only [b_is_word, seqS, ifS, setS, augS, dropS, retS, retN, nxS, bkS, ctS, asgS, subS, R.toS, R.bind, R.of, opF, unF, varF, cstF, chF, isB, asB, andT, orT, notT, andF, orF, notF, ifF, nilA, consA, tupF, lstF, cbF, callF, bmF', truT, truV, nameG, nilG, consG, tupG, List.set_cons_zero, List.set_cons_succ, List.getElem?_cons_zero, List.getElem?_cons_succ, Option.bind_some, Option.bind_none, Option.map_some, Option.map_none, List.length_cons, List.length_nil, List.cons_append, List.nil_append, List.append_nil, if_true, if_false, ite_true, ite_false, Bool.false_eq_true, reduceIte, reduceCtorEq, List.map_cons, List.map_nil, Nat.sub_self, List.replicate_succ, List.replicate_zero, Nat.reduceSub, Nat.reduceAdd, Nat.reduceLT, Nat.reduceLeDiff, Nat.reduceEqDiff, Nat.reduceMul, Nat.reducePow, Int.reduceLT, Int.reduceLE, Int.reduceAdd, Int.reduceMul, Int.reduceSub, Int.reduceNeg, Int.reduceEq, Int.reducePow, Int.reduceMod, Int.reduceDiv, Int.reduceToNat, decide_true, decide_false, and_true, true_and, and_self, Option.some.injEq, chF, leV, cmpV, lenV, S_len, sizeLine_eq, hle, q1, q2, Bool.not_false]
    · simp only [b_is_word, seqS, ifS, setS, augS, dropS, retS, retN, nxS, bkS, ctS, asgS, subS, R.toS, R.bind, R.of, opF, unF, varF, cstF, chF, isB, asB, andT, orT, notT, andF, orF, notF, ifF, nilA, consA, tupF, lstF, cbF, callF, bmF', truT, truV, nameG, nilG, consG, tupG, List.set_cons_zero, List.set_cons_succ, List.getElem?_cons_zero, List.getElem?_cons_succ, Option.bind_some, Option.bind_none, Option.map_some, Option.map_none, List.length_cons, List.length_nil, List.cons_append, List.nil_append, List.append_nil, if_true, if_false, ite_true, ite_false, Bool.false_eq_true, reduceIte, reduceCtorEq, List.map_cons, List.map_nil, Nat.sub_self, List.replicate_succ, List.replicate_zero, Nat.reduceSub, Nat.reduceAdd, Nat.reduceLT, Nat.reduceLeDiff, Nat.reduceEqDiff, Nat.reduceMul, Nat.reducePow, Int.reduceLT, Int.reduceLE, Int.reduceAdd, Int.reduceMul, Int.reduceSub, Int.reduceNeg, Int.reduceEq, Int.reducePow, Int.reduceMod, Int.reduceDiv, Int.reduceToNat, decide_true, decide_false, and_true, true_and, and_self, Option.some.injEq, chF, leV, cmpV, lenV, S_len, sizeLine_eq, hle, q1, Bool.not_false]
theorem F_word_at {l : List Nat} {p : Nat} {s : Store} (hl : l.length ≤ 200000) (hp : p ≤ l.length) : FL.F_word_at [.str (S l), .int (p : Int)] s = (match pWord (l.drop p) with
    | some w => .ok (.str (S w)) s
    | none => .er ⟨"NoTree", none⟩ s) := by
  obtain ⟨w, hw⟩ : ∃ w, w = (l.drop p).takeWhile isL := ⟨_, rfl⟩
  have r1 := F_run (g := (List.range 26).map (· + 97)) (f := isL) (s := s) (fun c => az_mem) hl hp
  have wl : w.length ≤ l.length - p := by rw [hw, ← List.length_drop]; exact tw_len
  rw [← hw] at r1
  have r2 := F_is_word (w := w) (s := s) (fun c hc => tw_all (r := l.drop p) c (hw ▸ hc)) (by omega)
  unfold pWord
  rw [← hw]
  unfold FL.F_word_at
  by_cases q : 1 ≤ w.length ∧ w.length ≤ 8
  · simp only [q]
    refine run_rt0 ?_ rfl
    rw [decide_eq_true q] at r2
    simp only [b_word_at, letters_eq, seqS, ifS, setS, augS, dropS, retS, retN, nxS, bkS, ctS, asgS, subS, R.toS, R.bind, R.of, opF, unF, varF, cstF, chF, isB, asB, andT, orT, notT, andF, orF, notF, ifF, nilA, consA, tupF, lstF, cbF, callF, bmF', truT, truV, nameG, nilG, consG, tupG, List.set_cons_zero, List.set_cons_succ, List.getElem?_cons_zero, List.getElem?_cons_succ, Option.bind_some, Option.bind_none, Option.map_some, Option.map_none, List.length_cons, List.length_nil, List.cons_append, List.nil_append, List.append_nil, if_true, if_false, ite_true, ite_false, Bool.false_eq_true, reduceIte, reduceCtorEq, List.map_cons, List.map_nil, Nat.sub_self, List.replicate_succ, List.replicate_zero, Nat.reduceSub, Nat.reduceAdd, Nat.reduceLT, Nat.reduceLeDiff, Nat.reduceEqDiff, Nat.reduceMul, Nat.reducePow, Int.reduceLT, Int.reduceLE, Int.reduceAdd, Int.reduceMul, Int.reduceSub, Int.reduceNeg, Int.reduceEq, Int.reducePow, Int.reduceMod, Int.reduceDiv, Int.reduceToNat, decide_true, decide_false, and_true, true_and, and_self, Option.some.injEq, r1, r2, Bool.not_true]
  · simp only [q]
    refine run_er (g := []) (e := [some (.str (S l)), some (.int (p : Int)), some (.str (S w))]) ?_ rfl
    rw [decide_eq_false q] at r2
    simp only [b_word_at, letters_eq, seqS, ifS, setS, augS, dropS, retS, retN, nxS, bkS, ctS, asgS, subS, R.toS, R.bind, R.of, opF, unF, varF, cstF, chF, isB, asB, andT, orT, notT, andF, orF, notF, ifF, nilA, consA, tupF, lstF, cbF, callF, bmF', truT, truV, nameG, nilG, consG, tupG, List.set_cons_zero, List.set_cons_succ, List.getElem?_cons_zero, List.getElem?_cons_succ, Option.bind_some, Option.bind_none, Option.map_some, Option.map_none, List.length_cons, List.length_nil, List.cons_append, List.nil_append, List.append_nil, if_true, if_false, ite_true, ite_false, Bool.false_eq_true, reduceIte, reduceCtorEq, List.map_cons, List.map_nil, Nat.sub_self, List.replicate_succ, List.replicate_zero, Nat.reduceSub, Nat.reduceAdd, Nat.reduceLT, Nat.reduceLeDiff, Nat.reduceEqDiff, Nat.reduceMul, Nat.reducePow, Int.reduceLT, Int.reduceLE, Int.reduceAdd, Int.reduceMul, Int.reduceSub, Int.reduceNeg, Int.reduceEq, Int.reducePow, Int.reduceMod, Int.reduceDiv, Int.reduceToNat, decide_true, decide_false, and_true, true_and, and_self, Option.some.injEq, r1, r2, Bool.not_false, raiseS]
theorem eq_S {a b : List Nat} {s : Store} : eqV (.str (S a)) (.str (S b)) s = some (.bl (decide (a = b)), s) := by
  unfold eqV eqB
  simp only [scEq, S_inj, Option.map_some]
theorem ne_S {a b : List Nat} {s : Store} : neV (.str (S a)) (.str (S b)) s = some (.bl (!decide (a = b)), s) := by
  unfold neV eqB
  simp only [scEq, S_inj, Option.map_some]
theorem minus_eq : ("-" : Str) = S [45] := by decide +kernel
theorem nought_eq : ("0" : Str) = S [48] := by decide +kernel
theorem starts_ok {l : List Nat} {p : Nat} {s : Store} : starts3V (.str (S l)) [.str "-", .int (p : Int)] s = some (.bl (decide (l[p]? = some 45)), s) := by
  have e : Txt.startswith3 (S l) "-" (p : Int) = decide (l[p]? = some 45) := by
    rw [minus_eq]
    unfold Txt.startswith3
    have h : fromIndex (S l).length (p : Int) = p := by
      unfold fromIndex
      rw [if_neg (by omega)]
      omega
    rw [h]
    have q := StrLaws.subAt_one (S l) 45 p
    rw [S_cps] at q
    rw [Bool.eq_iff_iff, Bool.and_eq_true, decide_eq_true_eq, decide_eq_true_eq]
    exact q
  simp only [starts3V, e]
theorem int_ok {f : List Nat} {s : Store} (h : ∀ c ∈ f, isF c = true) (h1 : f ≠ []) (h2 : f.length ≤ 60) : intV [.str (S f)] s = some (.int ((NumText.digitsVal f : Nat) : Int), s) := by
  have e := PySem.intText_digits (x := S f) (by
    rw [S_cps]
    intro c hc
    have := h c hc
    unfold isF at this
    simp only [Bool.and_eq_true, decide_eq_true_eq] at this
    omega) (by rw [S_cps]; exact h1) (by rw [S_len]; omega)
  rw [S_cps] at e
  simp only [intV, e, S_len, show f.length ≤ 640 by omega, if_true]
theorem num_tail {l : List Nat} {q : Nat} {b : Bool} {s : Store} (hl : l.length ≤ 200000) (hq : q ≤ l.length) : ∃ e, (seqS (setS 3 (callF 3 FL.F_run_of [] (consA (varF 0) (consA (varF 1) (consA (cstF (.str ("0123456789" : Str))) nilA)))))
    (seqS (ifS (notT (isB (chF leV leV (cstF (.int 1)) (cbF lenV (consA (varF 3) nilA)) (cstF (.int 60))))) (raiseS "NoTree") nxS)
    (seqS (ifS (andT (isB (opF eqV (opF idxV (varF 3) (cstF (.int 0))) (cstF (.str ("0" : Str))))) (orT (truT (varF 2)) (isB (opF gtV (cbF lenV (consA (varF 3) nilA)) (cstF (.int 1)))))) (raiseS "NoTree") nxS)
    (seqS (setS 4 (cbF intV (consA (varF 3) nilA)))
    (seqS (ifS (truT (varF 2)) (setS 4 (unF negV (varF 4))) nxS)
    (retS (tupF (consA (tupF (consA (cstF (.str ("num" : Str))) (consA (varF 4) nilA))) (consA (opF addV (varF 1) (cbF lenV (consA (varF 3) nilA))) nilA))))))))) [some (.str (S l)), some (.int (q : Int)), some (.bl b), none, none] s
    = match pFigs b ((l.drop q).takeWhile isF) with
      | some (i, _) => .rt (.tup [.tup [.str "num", .int i], .int ((q + ((l.drop q).takeWhile isF).length : Nat) : Int)]) s
      | none => .er ⟨"NoTree", none⟩ e s := by
  obtain ⟨f, hf⟩ : ∃ f, f = (l.drop q).takeWhile isF := ⟨_, rfl⟩
  have r1 := F_run (g := (List.range 10).map (· + 48)) (f := isF) (s := s) (fun c => fig_mem) hl hq
  have wl : f.length ≤ l.length - q := by rw [hf, ← List.length_drop]; exact tw_len
  have fa : ∀ c ∈ f, isF c = true := fun c hc => tw_all (r := l.drop q) c (hf ▸ hc)
  rw [← hf] at r1 ⊢
  have le : f.length ≤ 16777216 := by omega
  refine ⟨[some (.str (S l)), some (.int (q : Int)), some (.bl b), some (.str (S f)), none], ?_⟩
  refine (seqS_nx (e1 := [some (.str (S l)), some (.int (q : Int)), some (.bl b), some (.str (S f)), none]) (s1 := s) (by simp only [figs_eq, seqS, ifS, setS, augS, dropS, retS, retN, nxS, bkS, ctS, asgS, subS, R.toS, R.bind, R.of, opF, unF, varF, cstF, chF, isB, asB, andT, orT, notT, andF, orF, notF, ifF, nilA, consA, tupF, lstF, cbF, callF, bmF', truT, truV, nameG, nilG, consG, tupG, List.set_cons_zero, List.set_cons_succ, List.getElem?_cons_zero, List.getElem?_cons_succ, Option.bind_some, Option.bind_none, Option.map_some, Option.map_none, List.length_cons, List.length_nil, List.cons_append, List.nil_append, List.append_nil, if_true, if_false, ite_true, ite_false, Bool.false_eq_true, reduceIte, reduceCtorEq, List.map_cons, List.map_nil, Nat.sub_self, List.replicate_succ, List.replicate_zero, Nat.reduceSub, Nat.reduceAdd, Nat.reduceLT, Nat.reduceLeDiff, Nat.reduceEqDiff, Nat.reduceMul, Nat.reducePow, Int.reduceLT, Int.reduceLE, Int.reduceAdd, Int.reduceMul, Int.reduceSub, Int.reduceNeg, Int.reduceEq, Int.reducePow, Int.reduceMod, Int.reduceDiv, Int.reduceToNat, decide_true, decide_false, and_true, true_and, and_self, Option.some.injEq, r1])).trans ?_
  unfold pFigs
  by_cases q1 : 1 ≤ f.length ∧ f.length ≤ 60
  · obtain ⟨c, r, hcr⟩ : ∃ c r, f = c :: r := by
      cases f with
      | nil => simp at q1
      | cons c r => exact ⟨c, r, rfl⟩
    have i1 : (1 : Int) ≤ (f.length : Nat) := by omega
    have i2 : ((f.length : Nat) : Int) ≤ 60 := by omega
    refine (seqS_nx (e1 := [some (.str (S l)), some (.int (q : Int)), some (.bl b), some (.str (S f)), none]) (s1 := s) (by simp only [seqS, ifS, setS, augS, dropS, retS, retN, nxS, bkS, ctS, asgS, subS, R.toS, R.bind, R.of, opF, unF, varF, cstF, chF, isB, asB, andT, orT, notT, andF, orF, notF, ifF, nilA, consA, tupF, lstF, cbF, callF, bmF', truT, truV, nameG, nilG, consG, tupG, List.set_cons_zero, List.set_cons_succ, List.getElem?_cons_zero, List.getElem?_cons_succ, Option.bind_some, Option.bind_none, Option.map_some, Option.map_none, List.length_cons, List.length_nil, List.cons_append, List.nil_append, List.append_nil, if_true, if_false, ite_true, ite_false, Bool.false_eq_true, reduceIte, reduceCtorEq, List.map_cons, List.map_nil, Nat.sub_self, List.replicate_succ, List.replicate_zero, Nat.reduceSub, Nat.reduceAdd, Nat.reduceLT, Nat.reduceLeDiff, Nat.reduceEqDiff, Nat.reduceMul, Nat.reducePow, Int.reduceLT, Int.reduceLE, Int.reduceAdd, Int.reduceMul, Int.reduceSub, Int.reduceNeg, Int.reduceEq, Int.reducePow, Int.reduceMod, Int.reduceDiv, Int.reduceToNat, decide_true, decide_false, and_true, true_and, and_self, Option.some.injEq, chF, leV, cmpV, lenV, S_len, sizeLine_eq, le, i1, i2, Bool.not_true])).trans ?_
    have ix : idxV (.str (S f)) (.int 0) s = some (.str (S [c]), s) := ix_ok (p := 0) le (by rw [hcr]; rfl)
    have hd : f.head? = some c := by rw [hcr]; rfl
    have ec : decide ([c] = [48]) = decide (c = 48) := by simp
    by_cases q2 : c = 48 ∧ (b = true ∨ 1 < f.length)
    · rw [if_neg (fun z => z.2.2 (by rw [hd]; exact ⟨congrArg some q2.1, q2.2⟩))]
      refine (seqS_er (x := ⟨"NoTree", none⟩) (e1 := [some (.str (S l)), some (.int (q : Int)), some (.bl b), some (.str (S f)), none]) (s1 := s) ?_).trans rfl
      obtain ⟨q3, q4⟩ := q2
      cases b with
      | true => simp only [nought_eq, seqS, ifS, setS, augS, dropS, retS, retN, nxS, bkS, ctS, asgS, subS, R.toS, R.bind, R.of, opF, unF, varF, cstF, chF, isB, asB, andT, orT, notT, andF, orF, notF, ifF, nilA, consA, tupF, lstF, cbF, callF, bmF', truT, truV, nameG, nilG, consG, tupG, List.set_cons_zero, List.set_cons_succ, List.getElem?_cons_zero, List.getElem?_cons_succ, Option.bind_some, Option.bind_none, Option.map_some, Option.map_none, List.length_cons, List.length_nil, List.cons_append, List.nil_append, List.append_nil, if_true, if_false, ite_true, ite_false, Bool.false_eq_true, reduceIte, reduceCtorEq, List.map_cons, List.map_nil, Nat.sub_self, List.replicate_succ, List.replicate_zero, Nat.reduceSub, Nat.reduceAdd, Nat.reduceLT, Nat.reduceLeDiff, Nat.reduceEqDiff, Nat.reduceMul, Nat.reducePow, Int.reduceLT, Int.reduceLE, Int.reduceAdd, Int.reduceMul, Int.reduceSub, Int.reduceNeg, Int.reduceEq, Int.reducePow, Int.reduceMod, Int.reduceDiv, Int.reduceToNat, decide_true, decide_false, and_true, true_and, and_self, Option.some.injEq, ix, eq_S, q3, raiseS]
      | false =>
        have q5 : (1 : Nat) < f.length := by simpa using q4
        have q6 : ((f.length : Nat) : Int) > 1 := by omega
        simp only [nought_eq, seqS, ifS, setS, augS, dropS, retS, retN, nxS, bkS, ctS, asgS, subS, R.toS, R.bind, R.of, opF, unF, varF, cstF, chF, isB, asB, andT, orT, notT, andF, orF, notF, ifF, nilA, consA, tupF, lstF, cbF, callF, bmF', truT, truV, nameG, nilG, consG, tupG, List.set_cons_zero, List.set_cons_succ, List.getElem?_cons_zero, List.getElem?_cons_succ, Option.bind_some, Option.bind_none, Option.map_some, Option.map_none, List.length_cons, List.length_nil, List.cons_append, List.nil_append, List.append_nil, if_true, if_false, ite_true, ite_false, Bool.false_eq_true, reduceIte, reduceCtorEq, List.map_cons, List.map_nil, Nat.sub_self, List.replicate_succ, List.replicate_zero, Nat.reduceSub, Nat.reduceAdd, Nat.reduceLT, Nat.reduceLeDiff, Nat.reduceEqDiff, Nat.reduceMul, Nat.reducePow, Int.reduceLT, Int.reduceLE, Int.reduceAdd, Int.reduceMul, Int.reduceSub, Int.reduceNeg, Int.reduceEq, Int.reducePow, Int.reduceMod, Int.reduceDiv, Int.reduceToNat, decide_true, decide_false, and_true, true_and, and_self, Option.some.injEq, ix, eq_S, q3, gtV, cmpV, lenV, S_len, sizeLine_eq, le, q6, raiseS]
    · rw [if_pos ⟨q1.1, q1.2, fun z => q2 (by rw [hd] at z; exact ⟨Option.some.inj z.1, z.2⟩)⟩]
      refine (seqS_nx (e1 := [some (.str (S l)), some (.int (q : Int)), some (.bl b), some (.str (S f)), none]) (s1 := s) ?_).trans ?_
      · by_cases q3 : c = 48
        · have q4 : ¬ (b = true ∨ 1 < f.length) := fun z => q2 ⟨q3, z⟩
          have hb : b = false := by
            cases b with
            | true => exact absurd (.inl rfl) q4
            | false => rfl
          have q6 : ¬ ((f.length : Nat) : Int) > 1 := fun z => q4 (.inr (by omega))
          simp only [nought_eq, seqS, ifS, setS, augS, dropS, retS, retN, nxS, bkS, ctS, asgS, subS, R.toS, R.bind, R.of, opF, unF, varF, cstF, chF, isB, asB, andT, orT, notT, andF, orF, notF, ifF, nilA, consA, tupF, lstF, cbF, callF, bmF', truT, truV, nameG, nilG, consG, tupG, List.set_cons_zero, List.set_cons_succ, List.getElem?_cons_zero, List.getElem?_cons_succ, Option.bind_some, Option.bind_none, Option.map_some, Option.map_none, List.length_cons, List.length_nil, List.cons_append, List.nil_append, List.append_nil, if_true, if_false, ite_true, ite_false, Bool.false_eq_true, reduceIte, reduceCtorEq, List.map_cons, List.map_nil, Nat.sub_self, List.replicate_succ, List.replicate_zero, Nat.reduceSub, Nat.reduceAdd, Nat.reduceLT, Nat.reduceLeDiff, Nat.reduceEqDiff, Nat.reduceMul, Nat.reducePow, Int.reduceLT, Int.reduceLE, Int.reduceAdd, Int.reduceMul, Int.reduceSub, Int.reduceNeg, Int.reduceEq, Int.reducePow, Int.reduceMod, Int.reduceDiv, Int.reduceToNat, decide_true, decide_false, and_true, true_and, and_self, Option.some.injEq, ix, eq_S, q3, hb, gtV, cmpV, lenV, S_len, sizeLine_eq, le, q6]
        · have q7 : decide ([c] = [48]) = false := by rw [ec]; exact decide_eq_false q3
          simp only [nought_eq, seqS, ifS, setS, augS, dropS, retS, retN, nxS, bkS, ctS, asgS, subS, R.toS, R.bind, R.of, opF, unF, varF, cstF, chF, isB, asB, andT, orT, notT, andF, orF, notF, ifF, nilA, consA, tupF, lstF, cbF, callF, bmF', truT, truV, nameG, nilG, consG, tupG, List.set_cons_zero, List.set_cons_succ, List.getElem?_cons_zero, List.getElem?_cons_succ, Option.bind_some, Option.bind_none, Option.map_some, Option.map_none, List.length_cons, List.length_nil, List.cons_append, List.nil_append, List.append_nil, if_true, if_false, ite_true, ite_false, Bool.false_eq_true, reduceIte, reduceCtorEq, List.map_cons, List.map_nil, Nat.sub_self, List.replicate_succ, List.replicate_zero, Nat.reduceSub, Nat.reduceAdd, Nat.reduceLT, Nat.reduceLeDiff, Nat.reduceEqDiff, Nat.reduceMul, Nat.reducePow, Int.reduceLT, Int.reduceLE, Int.reduceAdd, Int.reduceMul, Int.reduceSub, Int.reduceNeg, Int.reduceEq, Int.reducePow, Int.reduceMod, Int.reduceDiv, Int.reduceToNat, decide_true, decide_false, and_true, true_and, and_self, Option.some.injEq, ix, eq_S, q7]
      · have iv := int_ok (s := s) fa (by rw [hcr]; exact List.cons_ne_nil _ _) q1.2
        have ad : ((q : Int) + (f.length : Nat)) = ((q + f.length : Nat) : Int) := by omega
        cases b with
        | true => simp only [seqS, ifS, setS, augS, dropS, retS, retN, nxS, bkS, ctS, asgS, subS, R.toS, R.bind, R.of, opF, unF, varF, cstF, chF, isB, asB, andT, orT, notT, andF, orF, notF, ifF, nilA, consA, tupF, lstF, cbF, callF, bmF', truT, truV, nameG, nilG, consG, tupG, List.set_cons_zero, List.set_cons_succ, List.getElem?_cons_zero, List.getElem?_cons_succ, Option.bind_some, Option.bind_none, Option.map_some, Option.map_none, List.length_cons, List.length_nil, List.cons_append, List.nil_append, List.append_nil, if_true, if_false, ite_true, ite_false, Bool.false_eq_true, reduceIte, reduceCtorEq, List.map_cons, List.map_nil, Nat.sub_self, List.replicate_succ, List.replicate_zero, Nat.reduceSub, Nat.reduceAdd, Nat.reduceLT, Nat.reduceLeDiff, Nat.reduceEqDiff, Nat.reduceMul, Nat.reducePow, Int.reduceLT, Int.reduceLE, Int.reduceAdd, Int.reduceMul, Int.reduceSub, Int.reduceNeg, Int.reduceEq, Int.reducePow, Int.reduceMod, Int.reduceDiv, Int.reduceToNat, decide_true, decide_false, and_true, true_and, and_self, Option.some.injEq, iv, negV, addV, lenV, S_len, sizeLine_eq, le, ad]
        | false => simp only [seqS, ifS, setS, augS, dropS, retS, retN, nxS, bkS, ctS, asgS, subS, R.toS, R.bind, R.of, opF, unF, varF, cstF, chF, isB, asB, andT, orT, notT, andF, orF, notF, ifF, nilA, consA, tupF, lstF, cbF, callF, bmF', truT, truV, nameG, nilG, consG, tupG, List.set_cons_zero, List.set_cons_succ, List.getElem?_cons_zero, List.getElem?_cons_succ, Option.bind_some, Option.bind_none, Option.map_some, Option.map_none, List.length_cons, List.length_nil, List.cons_append, List.nil_append, List.append_nil, if_true, if_false, ite_true, ite_false, Bool.false_eq_true, reduceIte, reduceCtorEq, List.map_cons, List.map_nil, Nat.sub_self, List.replicate_succ, List.replicate_zero, Nat.reduceSub, Nat.reduceAdd, Nat.reduceLT, Nat.reduceLeDiff, Nat.reduceEqDiff, Nat.reduceMul, Nat.reducePow, Int.reduceLT, Int.reduceLE, Int.reduceAdd, Int.reduceMul, Int.reduceSub, Int.reduceNeg, Int.reduceEq, Int.reducePow, Int.reduceMod, Int.reduceDiv, Int.reduceToNat, decide_true, decide_false, and_true, true_and, and_self, Option.some.injEq, iv, addV, lenV, S_len, sizeLine_eq, le, ad]
  · rw [if_neg (fun z => q1 ⟨z.1, z.2.1⟩)]
    refine (seqS_er (x := ⟨"NoTree", none⟩) (e1 := [some (.str (S l)), some (.int (q : Int)), some (.bl b), some (.str (S f)), none]) (s1 := s) ?_).trans rfl
    by_cases i1 : (1 : Int) ≤ (f.length : Nat)
    · have i2 : ¬ ((f.length : Nat) : Int) ≤ 60 := by omega
      simp only [seqS, ifS, setS, augS, dropS, retS, retN, nxS, bkS, ctS, asgS, subS, R.toS, R.bind, R.of, opF, unF, varF, cstF, chF, isB, asB, andT, orT, notT, andF, orF, notF, ifF, nilA, consA, tupF, lstF, cbF, callF, bmF', truT, truV, nameG, nilG, consG, tupG, List.set_cons_zero, List.set_cons_succ, List.getElem?_cons_zero, List.getElem?_cons_succ, Option.bind_some, Option.bind_none, Option.map_some, Option.map_none, List.length_cons, List.length_nil, List.cons_append, List.nil_append, List.append_nil, if_true, if_false, ite_true, ite_false, Bool.false_eq_true, reduceIte, reduceCtorEq, List.map_cons, List.map_nil, Nat.sub_self, List.replicate_succ, List.replicate_zero, Nat.reduceSub, Nat.reduceAdd, Nat.reduceLT, Nat.reduceLeDiff, Nat.reduceEqDiff, Nat.reduceMul, Nat.reducePow, Int.reduceLT, Int.reduceLE, Int.reduceAdd, Int.reduceMul, Int.reduceSub, Int.reduceNeg, Int.reduceEq, Int.reducePow, Int.reduceMod, Int.reduceDiv, Int.reduceToNat, decide_true, decide_false, and_true, true_and, and_self, Option.some.injEq, chF, leV, cmpV, lenV, S_len, sizeLine_eq, le, i1, i2, Bool.not_false, raiseS]
    · simp only [seqS, ifS, setS, augS, dropS, retS, retN, nxS, bkS, ctS, asgS, subS, R.toS, R.bind, R.of, opF, unF, varF, cstF, chF, isB, asB, andT, orT, notT, andF, orF, notF, ifF, nilA, consA, tupF, lstF, cbF, callF, bmF', truT, truV, nameG, nilG, consG, tupG, List.set_cons_zero, List.set_cons_succ, List.getElem?_cons_zero, List.getElem?_cons_succ, Option.bind_some, Option.bind_none, Option.map_some, Option.map_none, List.length_cons, List.length_nil, List.cons_append, List.nil_append, List.append_nil, if_true, if_false, ite_true, ite_false, Bool.false_eq_true, reduceIte, reduceCtorEq, List.map_cons, List.map_nil, Nat.sub_self, List.replicate_succ, List.replicate_zero, Nat.reduceSub, Nat.reduceAdd, Nat.reduceLT, Nat.reduceLeDiff, Nat.reduceEqDiff, Nat.reduceMul, Nat.reducePow, Int.reduceLT, Int.reduceLE, Int.reduceAdd, Int.reduceMul, Int.reduceSub, Int.reduceNeg, Int.reduceEq, Int.reducePow, Int.reduceMod, Int.reduceDiv, Int.reduceToNat, decide_true, decide_false, and_true, true_and, and_self, Option.some.injEq, chF, leV, cmpV, lenV, S_len, sizeLine_eq, le, i1, Bool.not_false, raiseS]
theorem F_number_at {l : List Nat} {p : Nat} {s : Store} (hl : l.length ≤ 200000) (hp : p ≤ l.length) : FL.F_number_at [.str (S l), .int (p : Int)] s = (match pNum (l.drop p) with
    | some (i, k) => .ok (.tup [(Tr.num i).pv, .int ((p + k : Nat) : Int)]) s
    | none => .er ⟨"NoTree", none⟩ s) := by
  unfold FL.F_number_at
  have st : setS 2 (bmF' "str" starts3V (varF 0) (consA (cstF (.str ("-" : Str))) (consA (varF 1) nilA))) [some (.str (S l)), some (.int (p : Int)), none, none, none] s = .nx [some (.str (S l)), some (.int (p : Int)), some (.bl (decide (l[p]? = some 45))), none, none] s := by
    simp only [seqS, ifS, setS, augS, dropS, retS, retN, nxS, bkS, ctS, asgS, subS, R.toS, R.bind, R.of, opF, unF, varF, cstF, chF, isB, asB, andT, orT, notT, andF, orF, notF, ifF, nilA, consA, tupF, lstF, cbF, callF, bmF', truT, truV, nameG, nilG, consG, tupG, List.set_cons_zero, List.set_cons_succ, List.getElem?_cons_zero, List.getElem?_cons_succ, Option.bind_some, Option.bind_none, Option.map_some, Option.map_none, List.length_cons, List.length_nil, List.cons_append, List.nil_append, List.append_nil, if_true, if_false, ite_true, ite_false, Bool.false_eq_true, reduceIte, reduceCtorEq, List.map_cons, List.map_nil, Nat.sub_self, List.replicate_succ, List.replicate_zero, Nat.reduceSub, Nat.reduceAdd, Nat.reduceLT, Nat.reduceLeDiff, Nat.reduceEqDiff, Nat.reduceMul, Nat.reducePow, Int.reduceLT, Int.reduceLE, Int.reduceAdd, Int.reduceMul, Int.reduceSub, Int.reduceNeg, Int.reduceEq, Int.reducePow, Int.reduceMod, Int.reduceDiv, Int.reduceToNat, decide_true, decide_false, and_true, true_and, and_self, Option.some.injEq, tyOk, beq_self_eq_true, starts_ok]
  by_cases b : l[p]? = some 45
  · have pl : p < l.length := (List.getElem?_eq_some_iff.mp b).1
    obtain ⟨e, h⟩ := num_tail (l := l) (q := p + 1) (b := true) (s := s) hl (by omega)
    have hd : (l.drop p).head? = some 45 := by rw [List.head?_drop]; exact b
    have tl : (l.drop p).tail = l.drop (p + 1) := List.tail_drop
    unfold pNum
    rw [if_pos hd, tl]
    rw [decide_eq_true b] at st
    have body : b_number_at [some (.str (S l)), some (.int (p : Int)), none, none, none] s = _ := (seqS_nx st).trans ((seqS_nx (e1 := [some (.str (S l)), some (.int ((p + 1 : Nat) : Int)), some (.bl true), none, none]) (s1 := s) (by simp only [seqS, ifS, setS, augS, dropS, retS, retN, nxS, bkS, ctS, asgS, subS, R.toS, R.bind, R.of, opF, unF, varF, cstF, chF, isB, asB, andT, orT, notT, andF, orF, notF, ifF, nilA, consA, tupF, lstF, cbF, callF, bmF', truT, truV, nameG, nilG, consG, tupG, List.set_cons_zero, List.set_cons_succ, List.getElem?_cons_zero, List.getElem?_cons_succ, Option.bind_some, Option.bind_none, Option.map_some, Option.map_none, List.length_cons, List.length_nil, List.cons_append, List.nil_append, List.append_nil, if_true, if_false, ite_true, ite_false, Bool.false_eq_true, reduceIte, reduceCtorEq, List.map_cons, List.map_nil, Nat.sub_self, List.replicate_succ, List.replicate_zero, Nat.reduceSub, Nat.reduceAdd, Nat.reduceLT, Nat.reduceLeDiff, Nat.reduceEqDiff, Nat.reduceMul, Nat.reducePow, Int.reduceLT, Int.reduceLE, Int.reduceAdd, Int.reduceMul, Int.reduceSub, Int.reduceNeg, Int.reduceEq, Int.reducePow, Int.reduceMod, Int.reduceDiv, Int.reduceToNat, decide_true, decide_false, and_true, true_and, and_self, Option.some.injEq, iaddV, addV]; rfl)).trans h)
    cases c : pFigs true ((l.drop (p + 1)).takeWhile isF) with
    | none =>
      rw [c] at body
      exact run_er (g := []) (by rw [List.append_nil]; exact body) rfl
    | some x =>
      obtain ⟨i, k⟩ := x
      rw [c] at body
      have ek : k = 1 + ((l.drop (p + 1)).takeWhile isF).length := by
        unfold pFigs at c
        split at c
        · cases c; rfl
        · cases c
      subst ek
      refine run_rt0 (body.trans ?_) rfl
      rw [← Nat.add_assoc]
      rfl
  · obtain ⟨e, h⟩ := num_tail (l := l) (q := p) (b := false) (s := s) hl hp
    have hd : ¬ (l.drop p).head? = some 45 := by rw [List.head?_drop]; exact b
    unfold pNum
    rw [if_neg hd]
    rw [decide_eq_false b] at st
    have body : b_number_at [some (.str (S l)), some (.int (p : Int)), none, none, none] s = _ := (seqS_nx st).trans ((seqS_nx (e1 := [some (.str (S l)), some (.int (p : Int)), some (.bl false), none, none]) (s1 := s) (by simp only [seqS, ifS, setS, augS, dropS, retS, retN, nxS, bkS, ctS, asgS, subS, R.toS, R.bind, R.of, opF, unF, varF, cstF, chF, isB, asB, andT, orT, notT, andF, orF, notF, ifF, nilA, consA, tupF, lstF, cbF, callF, bmF', truT, truV, nameG, nilG, consG, tupG, List.set_cons_zero, List.set_cons_succ, List.getElem?_cons_zero, List.getElem?_cons_succ, Option.bind_some, Option.bind_none, Option.map_some, Option.map_none, List.length_cons, List.length_nil, List.cons_append, List.nil_append, List.append_nil, if_true, if_false, ite_true, ite_false, Bool.false_eq_true, reduceIte, reduceCtorEq, List.map_cons, List.map_nil, Nat.sub_self, List.replicate_succ, List.replicate_zero, Nat.reduceSub, Nat.reduceAdd, Nat.reduceLT, Nat.reduceLeDiff, Nat.reduceEqDiff, Nat.reduceMul, Nat.reducePow, Int.reduceLT, Int.reduceLE, Int.reduceAdd, Int.reduceMul, Int.reduceSub, Int.reduceNeg, Int.reduceEq, Int.reducePow, Int.reduceMod, Int.reduceDiv, Int.reduceToNat, decide_true, decide_false, and_true, true_and, and_self, Option.some.injEq])).trans h)
    cases c : pFigs false ((l.drop p).takeWhile isF) with
    | none =>
      rw [c] at body
      exact run_er (g := []) (by rw [List.append_nil]; exact body) rfl
    | some x =>
      obtain ⟨i, k⟩ := x
      rw [c] at body
      have ek : k = ((l.drop p).takeWhile isF).length := by
        unfold pFigs at c
        split at c
        · cases c; rfl
        · cases c
      subst ek
      exact run_rt0 body rfl
/-! ### what is eaten -/
theorem pWord_len {r w : List Nat} (h : pWord r = some w) : w.length ≤ r.length ∧ w = r.takeWhile isL ∧ 1 ≤ w.length ∧ w.length ≤ 8 := by
  unfold pWord at h
  simp only at h
  split at h
  · rename_i q
    cases h
    exact ⟨tw_len, rfl, q.1, q.2⟩
  · cases h
theorem pFigs_len {b : Bool} {f : List Nat} {i : Int} {k : Nat} (h : pFigs b f = some (i, k)) : k = (if b = true then 1 else 0) + f.length := by
  unfold pFigs at h
  split at h
  · cases b <;> cases h <;> simp
  · cases h
theorem pNum_len {r : List Nat} {i : Int} {k : Nat} (h : pNum r = some (i, k)) : k ≤ r.length := by
  unfold pNum at h
  split at h
  · rename_i q
    have := pFigs_len h
    cases r with
    | nil => cases q
    | cons a r =>
      have l1 := tw_len (f := isF) (r := r)
      simp only [List.tail_cons, if_true] at this
      rw [List.length_cons]
      omega
  · have := pFigs_len h
    have l1 := tw_len (f := isF) (r := r)
    simp only [Bool.false_eq_true, if_false] at this
    omega
theorem get_lt {r : List Nat} {k c : Nat} (h : r[k]? = some c) : k < r.length := (List.getElem?_eq_some_iff.mp h).1
theorem pArms_len {p : List Nat → Option (Tr × Nat)} (hp : ∀ r t k, p r = some (t, k) → k ≤ r.length) : ∀ (m : Nat) (r : List Nat) (as : List Tr) (k : Nat), pArms p m r = some (as, k) → k ≤ r.length
  | 0, r, as, k, h => by cases h
  | m + 1, r, as, k, h => by
    unfold pArms at h
    cases c : p r with
    | none => rw [c] at h; cases h
    | some x =>
      obtain ⟨t, k1⟩ := x
      rw [c] at h
      simp only at h
      split at h
      · rename_i q
        cases h
        have := get_lt q
        omega
      · split at h
        · rename_i q
          have q1 := get_lt q.2.1
          obtain ⟨x, hx, e⟩ := Option.map_eq_some_iff.mp h
          cases e
          have := pArms_len hp m _ x.1 x.2 hx
          rw [List.length_drop] at this
          omega
        · cases h
theorem pTree_len {bare : Bool} : ∀ (d : Nat) (r : List Nat) (t : Tr) (k : Nat), pTree bare d r = some (t, k) → k ≤ r.length
  | 0, r, t, k, h => by cases h
  | d + 1, r, t, k, h => by
    unfold pTree at h
    cases r with
    | nil => cases h
    | cons c r =>
      simp only [List.head?_cons] at h
      split at h
      · obtain ⟨x, hx, e⟩ := Option.map_eq_some_iff.mp h
        cases e
        exact pNum_len (i := x.1) (k := x.2) hx
      · split at h
        · obtain ⟨w, hw, e⟩ := Option.map_eq_some_iff.mp h
          cases e
          have := (pWord_len hw).1
          rw [List.tail_cons] at this
          rw [List.length_cons]
          omega
        · unfold pKnot at h
          cases hw : pWord (c :: r) with
          | none => rw [hw] at h; cases h
          | some w =>
            rw [hw] at h
            simp only at h
            split at h
            · rename_i q
              have q1 := get_lt q
              obtain ⟨x, hx, e⟩ := Option.map_eq_some_iff.mp h
              cases e
              have := pArms_len (pTree_len d) 4 _ x.1 x.2 hx
              rw [List.length_drop] at this
              omega
            · cases h
              exact (pWord_len hw).1
/-! ### one sign, two signs -/
theorem take1 {l : List Nat} {n c : Nat} : ((l.drop n).take 1 = [c]) ↔ l[n]? = some c := by
  rw [← List.head?_drop]
  cases l.drop n with
  | nil => simp
  | cons a r => simp
theorem take1_nil {l : List Nat} {n : Nat} (h : l[n]? = none) : (l.drop n).take 1 = [] := by
  rw [← List.head?_drop] at h
  cases q : l.drop n with
  | nil => rfl
  | cons a r => rw [q] at h; cases h
theorem take2 {l : List Nat} {n a b : Nat} : ((l.drop n).take 2 = [a, b]) ↔ (l[n]? = some a ∧ l[n + 1]? = some b) := by
  have h1 : l[n]? = (l.drop n)[0]? := by rw [List.getElem?_drop]; rfl
  have h2 : l[n + 1]? = (l.drop n)[1]? := by rw [List.getElem?_drop]
  rw [h1, h2]
  cases l.drop n with
  | nil => simp
  | cons x r =>
    cases r with
    | nil => simp
    | cons y q => simp
theorem close_eq : (")" : Str) = S [41] := by decide +kernel
theorem open_eq : ("(" : Str) = S [40] := by decide +kernel
theorem comma_eq : (", " : Str) = S [44, 32] := by decide +kernel
theorem none_eq : ("" : Str) = S [] := by decide +kernel
theorem ask_eq : ("?" : Str) = S [63] := by decide +kernel
theorem heads_eq : ("-0123456789" : Str) = S (45 :: (List.range 10).map (· + 48)) := by decide +kernel
theorem sl1 {l : List Nat} {n : Nat} {s : Store} (hl : l.length ≤ 200000) (hn : n ≤ l.length) : slV (.str (S l)) (some (n : Int)) (some ((n : Int) + 1)) s = some (.str (S ((l.drop n).take 1)), s) := sl_ok (n := 1) (by omega) hn
theorem sl2 {l : List Nat} {n : Nat} {s : Store} (hl : l.length ≤ 200000) (hn : n ≤ l.length) : slV (.str (S l)) (some (n : Int)) (some ((n : Int) + 2)) s = some (.str (S ((l.drop n).take 2)), s) := sl_ok (n := 2) (by omega) hn
/-! ### a knot -/
abbrev nt : Ex := ⟨"NoTree", none⟩
def TreeOk (l : List Nat) (bare : Bool) (d : Nat) (F : Fn) : Prop := ∀ (q : Nat) (s : Store), q ≤ l.length → F [.str (S l), .int (q : Int), .bl bare, .int (31 - (d : Int))] s = (match pTree bare d (l.drop q) with
    | some (t, k) => .ok (.tup [t.pv, .int ((q + k : Nat) : Int)]) s
    | none => .er nt s)
def KQ (w : Str) (s : Store) (p : Nat) (z : Option (List Tr × Nat)) (r : RS) : Prop := match z with
  | some (as, k) => r = .rt (.tup [(Tr.of w as).pv, .int ((p + k : Nat) : Int)]) (s ++ [.lst (pvs as)])
  | none => ∃ e g, r = .er nt e (s ++ g)
theorem knot_body {l : List Nat} {bare : Bool} {d : Nat} {Ft Fk : Fn} (hl : l.length ≤ 200000) (ih : TreeOk l bare d Ft) {p : Nat} (hp : p ≤ l.length) {w : Str} {s : Store} {deep : Int} (hd : deep + 1 = 31 - (d : Int)) :
    (∀ as k, pArms (pTree bare d) 4 (l.drop p) = some (as, k) → whS (b_knot_at_t1 Ft Fk) (b_knot_at_s2 Ft Fk) [some (.str (S l)), some (.int (p : Int)), some (.str w), some (.bl bare), some (.int deep), some (.ref s.length), none] (s ++ [.lst []]) = .rt (.tup [(Tr.of w as).pv, .int ((p + k : Nat) : Int)]) (s ++ [.lst (pvs as)])) ∧
    (pArms (pTree bare d) 4 (l.drop p) = none → ∃ e g, whS (b_knot_at_t1 Ft Fk) (b_knot_at_s2 Ft Fk) [some (.str (S l)), some (.int (p : Int)), some (.str w), some (.bl bare), some (.int deep), some (.ref s.length), none] (s ++ [.lst []]) = .er nt e (s ++ g)) := by
  obtain ⟨Z, hZ⟩ : ∃ Z, Z = pArms (pTree bare d) 4 (l.drop p) := ⟨_, rfl⟩
  let E : Nat → Option PV → Env := fun q o => [some (.str (S l)), some (.int (q : Int)), some (.str w), some (.bl bare), some (.int deep), some (.ref s.length), o]
  have key := whS_wp (c := b_knot_at_t1 Ft Fk) (b := b_knot_at_s2 Ft Fk) (KQ w s p Z)
    (fun e st => ∃ (as0 : List Tr) (q : Nat) (o : Option PV), as0.length ≤ 3 ∧ p ≤ q ∧ q ≤ l.length ∧ e = E q o ∧ st = s ++ [.lst (pvs as0)] ∧ Z = (pArms (pTree bare d) (4 - as0.length) (l.drop q)).map fun x => (as0 ++ x.1, (q - p) + x.2))
    (fun e _ => match e with
      | [_, some (.int i), _, _, _, _, _] => l.length - i.toNat
      | _ => 0) (e := E p none) (st := s ++ [.lst []])
    ⟨[], p, none, by simp, Nat.le_refl _, hp, rfl, rfl, by
      rw [hZ, show 4 - ([] : List Tr).length = 4 from rfl]
      cases pArms (pTree bare d) 4 (l.drop p) with
      | none => rfl
      | some x => simp⟩ (by show l.length - _ < 1000000; omega) (fun e st ⟨as0, q, o, h3, hpq, hq, he, hs, hr⟩ => by
    subst he hs
    refine ⟨true, s ++ [.lst (pvs as0)], by simp only [b_knot_at_t1, seqS, ifS, setS, augS, dropS, retS, retN, nxS, bkS, ctS, asgS, subS, R.toS, R.bind, R.of, opF, unF, varF, cstF, chF, isB, asB, andT, orT, notT, andF, orF, notF, ifF, nilA, consA, tupF, lstF, cbF, callF, bmF', truT, truV, nameG, nilG, consG, tupG, List.set_cons_zero, List.set_cons_succ, List.getElem?_cons_zero, List.getElem?_cons_succ, Option.bind_some, Option.bind_none, Option.map_some, Option.map_none, List.length_cons, List.length_nil, List.cons_append, List.nil_append, List.append_nil, if_true, if_false, ite_true, ite_false, Bool.false_eq_true, reduceIte, reduceCtorEq, List.map_cons, List.map_nil, Nat.sub_self, List.replicate_succ, List.replicate_zero, Nat.reduceSub, Nat.reduceAdd, Nat.reduceLT, Nat.reduceLeDiff, Nat.reduceEqDiff, Nat.reduceMul, Nat.reducePow, Int.reduceLT, Int.reduceLE, Int.reduceAdd, Int.reduceMul, Int.reduceSub, Int.reduceNeg, Int.reduceEq, Int.reducePow, Int.reduceMod, Int.reduceDiv, Int.reduceToNat, decide_true, decide_false, and_true, true_and, and_self, Option.some.injEq], ?_⟩
    rw [if_pos rfl]
    obtain ⟨m, hm⟩ : ∃ m, 4 - as0.length = m + 1 := ⟨3 - as0.length, by omega⟩
    rw [hm] at hr
    unfold pArms at hr
    have ht := ih q (s ++ [.lst (pvs as0)]) hq
    rw [← hd] at ht
    cases c : pTree bare d (l.drop q) with
    | none =>
      rw [c] at hr ht
      simp only at hr ht
      have : b_knot_at_s2 Ft Fk (E q o) (s ++ [.lst (pvs as0)]) = .er nt (E q o) (s ++ [.lst (pvs as0)]) := by
        unfold b_knot_at_s2
        refine (seqS_er (x := nt) (e1 := E q o) (s1 := s ++ [.lst (pvs as0)]) ?_)
        simp only [E, seqS, ifS, setS, augS, dropS, retS, retN, nxS, bkS, ctS, asgS, subS, R.toS, R.bind, R.of, opF, unF, varF, cstF, chF, isB, asB, andT, orT, notT, andF, orF, notF, ifF, nilA, consA, tupF, lstF, cbF, callF, bmF', truT, truV, nameG, nilG, consG, tupG, List.set_cons_zero, List.set_cons_succ, List.getElem?_cons_zero, List.getElem?_cons_succ, Option.bind_some, Option.bind_none, Option.map_some, Option.map_none, List.length_cons, List.length_nil, List.cons_append, List.nil_append, List.append_nil, if_true, if_false, ite_true, ite_false, Bool.false_eq_true, reduceIte, reduceCtorEq, List.map_cons, List.map_nil, Nat.sub_self, List.replicate_succ, List.replicate_zero, Nat.reduceSub, Nat.reduceAdd, Nat.reduceLT, Nat.reduceLeDiff, Nat.reduceEqDiff, Nat.reduceMul, Nat.reducePow, Int.reduceLT, Int.reduceLE, Int.reduceAdd, Int.reduceMul, Int.reduceSub, Int.reduceNeg, Int.reduceEq, Int.reducePow, Int.reduceMod, Int.reduceDiv, Int.reduceToNat, decide_true, decide_false, and_true, true_and, and_self, Option.some.injEq, addV, ht]
      rw [this, hr]
      exact ⟨_, _, rfl⟩
    | some x =>
      obtain ⟨t, k⟩ := x
      rw [c] at hr ht
      simp only at hr ht
      have kl := pTree_len _ _ _ _ c
      rw [List.length_drop] at kl
      have qk : q + k ≤ l.length := by omega
      have gr : (s ++ [PO.lst (pvs as0)])[s.length]? = some (.lst (pvs as0)) := getS0
      have tok : tyOk "list" (.ref s.length) (s ++ [PO.lst (pvs as0)]) = true := by simp only [tyOk, gr]; rfl
      have pl : (pvs as0).length = as0.length := by rw [pvs_map, List.length_map]
      have lz : (pvs as0).length < 16777216 := by omega
      have pa : pvs as0 ++ [t.pv] = pvs (as0 ++ [t]) := by simp only [pvs_map, List.map_append, List.map_cons, List.map_nil]
      have a1 : asgS (tupG 2 (consG (nameG 6) (consG (nameG 1) nilG))) (callF 4 Ft [] (consA (varF 0) (consA (varF 1) (consA (varF 3) (consA (opF addV (varF 4) (cstF (.int 1))) nilA))))) (E q o) (s ++ [.lst (pvs as0)]) = .nx (E (q + k) (some t.pv)) (s ++ [.lst (pvs as0)]) := by
        simp only [E, seqS, ifS, setS, augS, dropS, retS, retN, nxS, bkS, ctS, asgS, subS, R.toS, R.bind, R.of, opF, unF, varF, cstF, chF, isB, asB, andT, orT, notT, andF, orF, notF, ifF, nilA, consA, tupF, lstF, cbF, callF, bmF', truT, truV, nameG, nilG, consG, tupG, List.set_cons_zero, List.set_cons_succ, List.getElem?_cons_zero, List.getElem?_cons_succ, Option.bind_some, Option.bind_none, Option.map_some, Option.map_none, List.length_cons, List.length_nil, List.cons_append, List.nil_append, List.append_nil, if_true, if_false, ite_true, ite_false, Bool.false_eq_true, reduceIte, reduceCtorEq, List.map_cons, List.map_nil, Nat.sub_self, List.replicate_succ, List.replicate_zero, Nat.reduceSub, Nat.reduceAdd, Nat.reduceLT, Nat.reduceLeDiff, Nat.reduceEqDiff, Nat.reduceMul, Nat.reducePow, Int.reduceLT, Int.reduceLE, Int.reduceAdd, Int.reduceMul, Int.reduceSub, Int.reduceNeg, Int.reduceEq, Int.reducePow, Int.reduceMod, Int.reduceDiv, Int.reduceToNat, decide_true, decide_false, and_true, true_and, and_self, Option.some.injEq, addV, ht]
      have a2 : dropS (bmF' "list" appendV (varF 5) (consA (varF 6) nilA)) (E (q + k) (some t.pv)) (s ++ [.lst (pvs as0)]) = .nx (E (q + k) (some t.pv)) (s ++ [.lst (pvs (as0 ++ [t]))]) := by
        simp only [E, seqS, ifS, setS, augS, dropS, retS, retN, nxS, bkS, ctS, asgS, subS, R.toS, R.bind, R.of, opF, unF, varF, cstF, chF, isB, asB, andT, orT, notT, andF, orF, notF, ifF, nilA, consA, tupF, lstF, cbF, callF, bmF', truT, truV, nameG, nilG, consG, tupG, List.set_cons_zero, List.set_cons_succ, List.getElem?_cons_zero, List.getElem?_cons_succ, Option.bind_some, Option.bind_none, Option.map_some, Option.map_none, List.length_cons, List.length_nil, List.cons_append, List.nil_append, List.append_nil, if_true, if_false, ite_true, ite_false, Bool.false_eq_true, reduceIte, reduceCtorEq, List.map_cons, List.map_nil, Nat.sub_self, List.replicate_succ, List.replicate_zero, Nat.reduceSub, Nat.reduceAdd, Nat.reduceLT, Nat.reduceLeDiff, Nat.reduceEqDiff, Nat.reduceMul, Nat.reducePow, Int.reduceLT, Int.reduceLE, Int.reduceAdd, Int.reduceMul, Int.reduceSub, Int.reduceNeg, Int.reduceEq, Int.reducePow, Int.reduceMod, Int.reduceDiv, Int.reduceToNat, decide_true, decide_false, and_true, true_and, and_self, Option.some.injEq, tok, appendV, gr, sizeLine_eq, lz, setS0_app, pa]
      have g2 : (s ++ [PO.lst (pvs (as0 ++ [t]))])[s.length]? = some (.lst (pvs (as0 ++ [t]))) := getS0
      have s1 := sl1 (s := s ++ [PO.lst (pvs (as0 ++ [t]))]) hl qk
      have s2 := sl2 (s := s ++ [PO.lst (pvs (as0 ++ [t]))]) hl qk
      have pl2 : (pvs (as0 ++ [t])).length = as0.length + 1 := by rw [pvs_map, List.length_map, List.length_append]; rfl
      unfold b_knot_at_s2
      rw [seqS_nx a1, seqS_nx a2]
      rw [List.getElem?_drop, List.getElem?_drop] at hr
      by_cases cl : l[q + k]? = some 41
      · rw [if_pos cl] at hr
        simp only [Option.map_some] at hr
        have t1 : decide ((l.drop (q + k)).take 1 = [41]) = true := decide_eq_true (take1.mpr cl)
        have ret : ∀ g : FS, seqS (ifS (isB (opF eqV (sliF (varF 0) (someO (varF 1)) (someO (opF addV (varF 1) (cstF (.int 1))))) (cstF (.str (")" : Str))))) (retS (tupF (consA (tupF (consA (cstF (.str ("of" : Str))) (consA (varF 2) (consA (cbF tupleV (consA (varF 5) nilA)) nilA)))) (consA (opF addV (varF 1) (cstF (.int 1))) nilA)))) nxS) g (E (q + k) (some t.pv)) (s ++ [.lst (pvs (as0 ++ [t]))]) = .rt (.tup [(Tr.of w (as0 ++ [t])).pv, .int (((q + k : Nat) : Int) + 1)]) (s ++ [.lst (pvs (as0 ++ [t]))]) := fun g => by
          refine seqS_rt ?_
          simp only [E, close_eq, seqS, ifS, setS, augS, dropS, retS, retN, nxS, bkS, ctS, asgS, subS, R.toS, R.bind, R.of, opF, unF, varF, cstF, chF, isB, asB, andT, orT, notT, andF, orF, notF, ifF, nilA, consA, tupF, lstF, cbF, callF, bmF', truT, truV, nameG, nilG, consG, tupG, List.set_cons_zero, List.set_cons_succ, List.getElem?_cons_zero, List.getElem?_cons_succ, Option.bind_some, Option.bind_none, Option.map_some, Option.map_none, List.length_cons, List.length_nil, List.cons_append, List.nil_append, List.append_nil, if_true, if_false, ite_true, ite_false, Bool.false_eq_true, reduceIte, reduceCtorEq, List.map_cons, List.map_nil, Nat.sub_self, List.replicate_succ, List.replicate_zero, Nat.reduceSub, Nat.reduceAdd, Nat.reduceLT, Nat.reduceLeDiff, Nat.reduceEqDiff, Nat.reduceMul, Nat.reducePow, Int.reduceLT, Int.reduceLE, Int.reduceAdd, Int.reduceMul, Int.reduceSub, Int.reduceNeg, Int.reduceEq, Int.reducePow, Int.reduceMod, Int.reduceDiv, Int.reduceToNat, decide_true, decide_false, and_true, true_and, and_self, Option.some.injEq, sliF, someO, asI, addV, s1, eq_S, t1, tupleV, seqAt, lstAt, g2, sizeLine_eq, Tr.pv]
        rw [ret, hr]
        show RS.rt _ _ = RS.rt _ _
        rw [show ((q + k : Nat) : Int) + 1 = ((p + (q - p + (k + 1)) : Nat) : Int) by omega]
      · rw [if_neg cl] at hr
        have t1 : decide ((l.drop (q + k)).take 1 = [41]) = false := decide_eq_false fun z => cl (take1.mp z)
        have nx : (ifS (isB (opF eqV (sliF (varF 0) (someO (varF 1)) (someO (opF addV (varF 1) (cstF (.int 1))))) (cstF (.str (")" : Str))))) (retS (tupF (consA (tupF (consA (cstF (.str ("of" : Str))) (consA (varF 2) (consA (cbF tupleV (consA (varF 5) nilA)) nilA)))) (consA (opF addV (varF 1) (cstF (.int 1))) nilA)))) nxS) (E (q + k) (some t.pv)) (s ++ [.lst (pvs (as0 ++ [t]))]) = .nx (E (q + k) (some t.pv)) (s ++ [.lst (pvs (as0 ++ [t]))]) := by
          simp only [E, close_eq, seqS, ifS, setS, augS, dropS, retS, retN, nxS, bkS, ctS, asgS, subS, R.toS, R.bind, R.of, opF, unF, varF, cstF, chF, isB, asB, andT, orT, notT, andF, orF, notF, ifF, nilA, consA, tupF, lstF, cbF, callF, bmF', truT, truV, nameG, nilG, consG, tupG, List.set_cons_zero, List.set_cons_succ, List.getElem?_cons_zero, List.getElem?_cons_succ, Option.bind_some, Option.bind_none, Option.map_some, Option.map_none, List.length_cons, List.length_nil, List.cons_append, List.nil_append, List.append_nil, if_true, if_false, ite_true, ite_false, Bool.false_eq_true, reduceIte, reduceCtorEq, List.map_cons, List.map_nil, Nat.sub_self, List.replicate_succ, List.replicate_zero, Nat.reduceSub, Nat.reduceAdd, Nat.reduceLT, Nat.reduceLeDiff, Nat.reduceEqDiff, Nat.reduceMul, Nat.reducePow, Int.reduceLT, Int.reduceLE, Int.reduceAdd, Int.reduceMul, Int.reduceSub, Int.reduceNeg, Int.reduceEq, Int.reducePow, Int.reduceMod, Int.reduceDiv, Int.reduceToNat, decide_true, decide_false, and_true, true_and, and_self, Option.some.injEq, sliF, someO, asI, addV, s1, eq_S, t1]
        rw [seqS_nx nx]
        rw [show q + (k + 1) = q + k + 1 from rfl] at hr
        by_cases co : l[q + k]? = some 44 ∧ l[q + k + 1]? = some 32
        · have t2 : decide ((l.drop (q + k)).take 2 = [44, 32]) = true := decide_eq_true (take2.mpr co)
          have q1 := get_lt co.2
          by_cases m0 : m = 0
          · rw [if_neg (fun z => z.2.2 m0)] at hr
            simp only [Option.map_none] at hr
            have l4 : ((pvs (as0 ++ [t])).length : Int) = 4 := by rw [pl2]; omega
            rw [seqS_er (x := nt) (e1 := E (q + k) (some t.pv)) (s1 := s ++ [.lst (pvs (as0 ++ [t]))]) (by
              simp only [E, comma_eq, seqS, ifS, setS, augS, dropS, retS, retN, nxS, bkS, ctS, asgS, subS, R.toS, R.bind, R.of, opF, unF, varF, cstF, chF, isB, asB, andT, orT, notT, andF, orF, notF, ifF, nilA, consA, tupF, lstF, cbF, callF, bmF', truT, truV, nameG, nilG, consG, tupG, List.set_cons_zero, List.set_cons_succ, List.getElem?_cons_zero, List.getElem?_cons_succ, Option.bind_some, Option.bind_none, Option.map_some, Option.map_none, List.length_cons, List.length_nil, List.cons_append, List.nil_append, List.append_nil, if_true, if_false, ite_true, ite_false, Bool.false_eq_true, reduceIte, reduceCtorEq, List.map_cons, List.map_nil, Nat.sub_self, List.replicate_succ, List.replicate_zero, Nat.reduceSub, Nat.reduceAdd, Nat.reduceLT, Nat.reduceLeDiff, Nat.reduceEqDiff, Nat.reduceMul, Nat.reducePow, Int.reduceLT, Int.reduceLE, Int.reduceAdd, Int.reduceMul, Int.reduceSub, Int.reduceNeg, Int.reduceEq, Int.reducePow, Int.reduceMod, Int.reduceDiv, Int.reduceToNat, decide_true, decide_false, and_true, true_and, and_self, Option.some.injEq, sliF, someO, asI, addV, s2, ne_S, t2, Bool.not_true, lenV, g2, eqV, eqB, scEq, l4, raiseS]), hr]
            exact ⟨_, _, rfl⟩
          · rw [if_pos ⟨co.1, co.2, m0⟩] at hr
            have l4 : ¬ ((pvs (as0 ++ [t])).length : Int) = 4 := by rw [pl2]; omega
            rw [seqS_nx (e1 := E (q + k) (some t.pv)) (s1 := s ++ [.lst (pvs (as0 ++ [t]))]) (by
              simp only [E, comma_eq, seqS, ifS, setS, augS, dropS, retS, retN, nxS, bkS, ctS, asgS, subS, R.toS, R.bind, R.of, opF, unF, varF, cstF, chF, isB, asB, andT, orT, notT, andF, orF, notF, ifF, nilA, consA, tupF, lstF, cbF, callF, bmF', truT, truV, nameG, nilG, consG, tupG, List.set_cons_zero, List.set_cons_succ, List.getElem?_cons_zero, List.getElem?_cons_succ, Option.bind_some, Option.bind_none, Option.map_some, Option.map_none, List.length_cons, List.length_nil, List.cons_append, List.nil_append, List.append_nil, if_true, if_false, ite_true, ite_false, Bool.false_eq_true, reduceIte, reduceCtorEq, List.map_cons, List.map_nil, Nat.sub_self, List.replicate_succ, List.replicate_zero, Nat.reduceSub, Nat.reduceAdd, Nat.reduceLT, Nat.reduceLeDiff, Nat.reduceEqDiff, Nat.reduceMul, Nat.reducePow, Int.reduceLT, Int.reduceLE, Int.reduceAdd, Int.reduceMul, Int.reduceSub, Int.reduceNeg, Int.reduceEq, Int.reducePow, Int.reduceMod, Int.reduceDiv, Int.reduceToNat, decide_true, decide_false, and_true, true_and, and_self, Option.some.injEq, sliF, someO, asI, addV, s2, ne_S, t2, Bool.not_true, lenV, g2, eqV, eqB, scEq, l4])]
            have au : augS 1 iaddV (cstF (.int 2)) (E (q + k) (some t.pv)) (s ++ [.lst (pvs (as0 ++ [t]))]) = .nx (E (q + k + 2) (some t.pv)) (s ++ [.lst (pvs (as0 ++ [t]))]) := by
              simp only [E, seqS, ifS, setS, augS, dropS, retS, retN, nxS, bkS, ctS, asgS, subS, R.toS, R.bind, R.of, opF, unF, varF, cstF, chF, isB, asB, andT, orT, notT, andF, orF, notF, ifF, nilA, consA, tupF, lstF, cbF, callF, bmF', truT, truV, nameG, nilG, consG, tupG, List.set_cons_zero, List.set_cons_succ, List.getElem?_cons_zero, List.getElem?_cons_succ, Option.bind_some, Option.bind_none, Option.map_some, Option.map_none, List.length_cons, List.length_nil, List.cons_append, List.nil_append, List.append_nil, if_true, if_false, ite_true, ite_false, Bool.false_eq_true, reduceIte, reduceCtorEq, List.map_cons, List.map_nil, Nat.sub_self, List.replicate_succ, List.replicate_zero, Nat.reduceSub, Nat.reduceAdd, Nat.reduceLT, Nat.reduceLeDiff, Nat.reduceEqDiff, Nat.reduceMul, Nat.reducePow, Int.reduceLT, Int.reduceLE, Int.reduceAdd, Int.reduceMul, Int.reduceSub, Int.reduceNeg, Int.reduceEq, Int.reducePow, Int.reduceMod, Int.reduceDiv, Int.reduceToNat, decide_true, decide_false, and_true, true_and, and_self, Option.some.injEq, iaddV, addV]
              rfl
            rw [au]
            refine ⟨⟨as0 ++ [t], q + k + 2, some t.pv, by rw [List.length_append, List.length_singleton]; omega, by omega, by omega, rfl, rfl, ?_⟩, ?_⟩
            · rw [hr, List.drop_drop, Option.map_map, show 4 - (as0 ++ [t]).length = m by rw [List.length_append, List.length_singleton]; omega, show q + (k + 2) = q + k + 2 from rfl]
              congr 1
              funext x
              simp only [Function.comp, List.append_assoc, List.cons_append, List.nil_append, Prod.mk.injEq, true_and]
              omega
            · show l.length - ((q + k + 2 : Nat) : Int).toNat < l.length - (q : Int).toNat
              omega
        · have t2 : decide ((l.drop (q + k)).take 2 = [44, 32]) = false := decide_eq_false fun z => co (take2.mp z)
          rw [if_neg (fun z => co ⟨z.1, z.2.1⟩)] at hr
          simp only [Option.map_none] at hr
          rw [seqS_er (x := nt) (e1 := E (q + k) (some t.pv)) (s1 := s ++ [.lst (pvs (as0 ++ [t]))]) (by
            simp only [E, comma_eq, seqS, ifS, setS, augS, dropS, retS, retN, nxS, bkS, ctS, asgS, subS, R.toS, R.bind, R.of, opF, unF, varF, cstF, chF, isB, asB, andT, orT, notT, andF, orF, notF, ifF, nilA, consA, tupF, lstF, cbF, callF, bmF', truT, truV, nameG, nilG, consG, tupG, List.set_cons_zero, List.set_cons_succ, List.getElem?_cons_zero, List.getElem?_cons_succ, Option.bind_some, Option.bind_none, Option.map_some, Option.map_none, List.length_cons, List.length_nil, List.cons_append, List.nil_append, List.append_nil, if_true, if_false, ite_true, ite_false, Bool.false_eq_true, reduceIte, reduceCtorEq, List.map_cons, List.map_nil, Nat.sub_self, List.replicate_succ, List.replicate_zero, Nat.reduceSub, Nat.reduceAdd, Nat.reduceLT, Nat.reduceLeDiff, Nat.reduceEqDiff, Nat.reduceMul, Nat.reducePow, Int.reduceLT, Int.reduceLE, Int.reduceAdd, Int.reduceMul, Int.reduceSub, Int.reduceNeg, Int.reduceEq, Int.reducePow, Int.reduceMod, Int.reduceDiv, Int.reduceToNat, decide_true, decide_false, and_true, true_and, and_self, Option.some.injEq, sliF, someO, asI, addV, s2, ne_S, t2, Bool.not_false, raiseS]), hr]
          exact ⟨_, _, rfl⟩)
  rw [← hZ]
  refine ⟨fun as k h => ?_, fun h => ?_⟩
  · rw [h] at key
    exact key
  · rw [h] at key
    exact key
theorem pNum_pure (i : Int) (k : Int) : pureP (.tup [(Tr.num i).pv, .int k]) = true := rfl
theorem tp_pure (t : Tr) (k : Int) : pureP (.tup [t.pv, .int k]) = true := by
  simp only [pureP, puresP, pv_pure, Bool.and_true]
theorem F_tree {l : List Nat} {bare : Bool} (hl : l.length ≤ 200000) : ∀ (d n : Nat), d ≤ 30 → 2 * d + 1 ≤ n → TreeOk l bare d (FL.F_tree_at n) := by
  intro d
  induction d with
  | zero =>
    intro n _ hn q s hq
    obtain ⟨n, rfl⟩ : ∃ m, n = m + 1 := ⟨n - 1, by omega⟩
    unfold FL.F_tree_at
    refine run_er (g := []) (e := [some (.str (S l)), some (.int (q : Int)), some (.bl bare), some (.int (31 - ((0 : Nat) : Int))), none, none]) ?_ rfl
    have h : (31 - ((0 : Nat) : Int)) > 30 := by decide
    simp only [b_tree_at, seqS, ifS, setS, augS, dropS, retS, retN, nxS, bkS, ctS, asgS, subS, R.toS, R.bind, R.of, opF, unF, varF, cstF, chF, isB, asB, andT, orT, notT, andF, orF, notF, ifF, nilA, consA, tupF, lstF, cbF, callF, bmF', truT, truV, nameG, nilG, consG, tupG, List.set_cons_zero, List.set_cons_succ, List.getElem?_cons_zero, List.getElem?_cons_succ, Option.bind_some, Option.bind_none, Option.map_some, Option.map_none, List.length_cons, List.length_nil, List.cons_append, List.nil_append, List.append_nil, if_true, if_false, ite_true, ite_false, Bool.false_eq_true, reduceIte, reduceCtorEq, List.map_cons, List.map_nil, Nat.sub_self, List.replicate_succ, List.replicate_zero, Nat.reduceSub, Nat.reduceAdd, Nat.reduceLT, Nat.reduceLeDiff, Nat.reduceEqDiff, Nat.reduceMul, Nat.reducePow, Int.reduceLT, Int.reduceLE, Int.reduceAdd, Int.reduceMul, Int.reduceSub, Int.reduceNeg, Int.reduceEq, Int.reducePow, Int.reduceMod, Int.reduceDiv, Int.reduceToNat, decide_true, decide_false, and_true, true_and, and_self, Option.some.injEq, gtV, cmpV, h, raiseS]
  | succ d ih =>
    intro n hd hn p s hp
    obtain ⟨n, rfl⟩ : ∃ m, n = m + 2 := ⟨n - 2, by omega⟩
    have iht := ih n (by omega) (by omega)
    obtain ⟨deep, hdeep⟩ : ∃ deep : Int, deep = 31 - ((d + 1 : Nat) : Int) := ⟨_, rfl⟩
    rw [← hdeep]
    have nd : ¬ deep > 30 := by omega
    have sg := sl1 (s := s) hl hp
    let E : Nat → Option PV → Option PV → Env := fun q a b => [some (.str (S l)), some (.int (q : Int)), some (.bl bare), some (.int deep), a, b]
    obtain ⟨g, hg⟩ : ∃ g, g = (l.drop p).take 1 := ⟨_, rfl⟩
    rw [← hg] at sg
    have st1 : ∀ h : FS, seqS (ifS (isB (opF gtV (varF 3) (cstF (.int 30)))) (raiseS "NoTree") nxS) (seqS (setS 4 (sliF (varF 0) (someO (varF 1)) (someO (opF addV (varF 1) (cstF (.int 1)))))) h) (E p none none) s = h (E p (some (.str (S g))) none) s := fun h => by
      refine (seqS_nx (e1 := E p none none) (s1 := s) (by simp only [E, seqS, ifS, setS, augS, dropS, retS, retN, nxS, bkS, ctS, asgS, subS, R.toS, R.bind, R.of, opF, unF, varF, cstF, chF, isB, asB, andT, orT, notT, andF, orF, notF, ifF, nilA, consA, tupF, lstF, cbF, callF, bmF', truT, truV, nameG, nilG, consG, tupG, List.set_cons_zero, List.set_cons_succ, List.getElem?_cons_zero, List.getElem?_cons_succ, Option.bind_some, Option.bind_none, Option.map_some, Option.map_none, List.length_cons, List.length_nil, List.cons_append, List.nil_append, List.append_nil, if_true, if_false, ite_true, ite_false, Bool.false_eq_true, reduceIte, reduceCtorEq, List.map_cons, List.map_nil, Nat.sub_self, List.replicate_succ, List.replicate_zero, Nat.reduceSub, Nat.reduceAdd, Nat.reduceLT, Nat.reduceLeDiff, Nat.reduceEqDiff, Nat.reduceMul, Nat.reducePow, Int.reduceLT, Int.reduceLE, Int.reduceAdd, Int.reduceMul, Int.reduceSub, Int.reduceNeg, Int.reduceEq, Int.reducePow, Int.reduceMod, Int.reduceDiv, Int.reduceToNat, decide_true, decide_false, and_true, true_and, and_self, Option.some.injEq, gtV, cmpV, nd])).trans ?_
      exact seqS_nx (by simp only [E, seqS, ifS, setS, augS, dropS, retS, retN, nxS, bkS, ctS, asgS, subS, R.toS, R.bind, R.of, opF, unF, varF, cstF, chF, isB, asB, andT, orT, notT, andF, orF, notF, ifF, nilA, consA, tupF, lstF, cbF, callF, bmF', truT, truV, nameG, nilG, consG, tupG, List.set_cons_zero, List.set_cons_succ, List.getElem?_cons_zero, List.getElem?_cons_succ, Option.bind_some, Option.bind_none, Option.map_some, Option.map_none, List.length_cons, List.length_nil, List.cons_append, List.nil_append, List.append_nil, if_true, if_false, ite_true, ite_false, Bool.false_eq_true, reduceIte, reduceCtorEq, List.map_cons, List.map_nil, Nat.sub_self, List.replicate_succ, List.replicate_zero, Nat.reduceSub, Nat.reduceAdd, Nat.reduceLT, Nat.reduceLeDiff, Nat.reduceEqDiff, Nat.reduceMul, Nat.reducePow, Int.reduceLT, Int.reduceLE, Int.reduceAdd, Int.reduceMul, Int.reduceSub, Int.reduceNeg, Int.reduceEq, Int.reducePow, Int.reduceMod, Int.reduceDiv, Int.reduceToNat, decide_true, decide_false, and_true, true_and, and_self, Option.some.injEq, sliF, someO, asI, addV, sg])
    -- a word and what comes behind it
    have tail : ∀ a, ∃ fin, (seqS (setS 5 (callF 2 FL.F_word_at [] (consA (varF 0) (consA (varF 1) nilA))))
        (seqS (augS 1 iaddV (cbF lenV (consA (varF 5) nilA)))
        (seqS (ifS (isB (opF eqV (sliF (varF 0) (someO (varF 1)) (someO (opF addV (varF 1) (cstF (.int 1))))) (cstF (.str ("(" : Str))))) (retS (callF 5 (FL.F_knot_at (n + 1)) [] (consA (varF 0) (consA (opF addV (varF 1) (cstF (.int 1))) (consA (varF 5) (consA (varF 2) (consA (varF 3) nilA))))))) nxS)
        (retS (tupF (consA (tupF (consA (cstF (.str ("name" : Str))) (consA (varF 5) nilA))) (consA (varF 1) nilA))))))) (E p a none) s = fin ∧ (match pKnot (pTree bare d) (l.drop p) with
          | some (t, k) => fin = .rt (.tup [t.pv, .int ((p + k : Nat) : Int)]) s
          | none => ∃ e, fin = .er nt e s) := fun a => by
      refine ⟨_, rfl, ?_⟩
      have hw := F_word_at (s := s) hl hp
      unfold pKnot
      cases c : pWord (l.drop p) with
      | none =>
        rw [c] at hw
        exact ⟨E p a none, seqS_er (by simp only [E, seqS, ifS, setS, augS, dropS, retS, retN, nxS, bkS, ctS, asgS, subS, R.toS, R.bind, R.of, opF, unF, varF, cstF, chF, isB, asB, andT, orT, notT, andF, orF, notF, ifF, nilA, consA, tupF, lstF, cbF, callF, bmF', truT, truV, nameG, nilG, consG, tupG, List.set_cons_zero, List.set_cons_succ, List.getElem?_cons_zero, List.getElem?_cons_succ, Option.bind_some, Option.bind_none, Option.map_some, Option.map_none, List.length_cons, List.length_nil, List.cons_append, List.nil_append, List.append_nil, if_true, if_false, ite_true, ite_false, Bool.false_eq_true, reduceIte, reduceCtorEq, List.map_cons, List.map_nil, Nat.sub_self, List.replicate_succ, List.replicate_zero, Nat.reduceSub, Nat.reduceAdd, Nat.reduceLT, Nat.reduceLeDiff, Nat.reduceEqDiff, Nat.reduceMul, Nat.reducePow, Int.reduceLT, Int.reduceLE, Int.reduceAdd, Int.reduceMul, Int.reduceSub, Int.reduceNeg, Int.reduceEq, Int.reducePow, Int.reduceMod, Int.reduceDiv, Int.reduceToNat, decide_true, decide_false, and_true, true_and, and_self, Option.some.injEq, hw])⟩
      | some w =>
        rw [c] at hw
        obtain ⟨w1, w2, w3, w4⟩ := pWord_len c
        rw [List.length_drop] at w1
        simp only at hw ⊢
        have lw : w.length ≤ 16777216 := by omega
        rw [seqS_nx (e1 := E p a (some (.str (S w)))) (s1 := s) (by simp only [E, seqS, ifS, setS, augS, dropS, retS, retN, nxS, bkS, ctS, asgS, subS, R.toS, R.bind, R.of, opF, unF, varF, cstF, chF, isB, asB, andT, orT, notT, andF, orF, notF, ifF, nilA, consA, tupF, lstF, cbF, callF, bmF', truT, truV, nameG, nilG, consG, tupG, List.set_cons_zero, List.set_cons_succ, List.getElem?_cons_zero, List.getElem?_cons_succ, Option.bind_some, Option.bind_none, Option.map_some, Option.map_none, List.length_cons, List.length_nil, List.cons_append, List.nil_append, List.append_nil, if_true, if_false, ite_true, ite_false, Bool.false_eq_true, reduceIte, reduceCtorEq, List.map_cons, List.map_nil, Nat.sub_self, List.replicate_succ, List.replicate_zero, Nat.reduceSub, Nat.reduceAdd, Nat.reduceLT, Nat.reduceLeDiff, Nat.reduceEqDiff, Nat.reduceMul, Nat.reducePow, Int.reduceLT, Int.reduceLE, Int.reduceAdd, Int.reduceMul, Int.reduceSub, Int.reduceNeg, Int.reduceEq, Int.reducePow, Int.reduceMod, Int.reduceDiv, Int.reduceToNat, decide_true, decide_false, and_true, true_and, and_self, Option.some.injEq, hw]),
          seqS_nx (e1 := E (p + w.length) a (some (.str (S w)))) (s1 := s) (by simp only [E, seqS, ifS, setS, augS, dropS, retS, retN, nxS, bkS, ctS, asgS, subS, R.toS, R.bind, R.of, opF, unF, varF, cstF, chF, isB, asB, andT, orT, notT, andF, orF, notF, ifF, nilA, consA, tupF, lstF, cbF, callF, bmF', truT, truV, nameG, nilG, consG, tupG, List.set_cons_zero, List.set_cons_succ, List.getElem?_cons_zero, List.getElem?_cons_succ, Option.bind_some, Option.bind_none, Option.map_some, Option.map_none, List.length_cons, List.length_nil, List.cons_append, List.nil_append, List.append_nil, if_true, if_false, ite_true, ite_false, Bool.false_eq_true, reduceIte, reduceCtorEq, List.map_cons, List.map_nil, Nat.sub_self, List.replicate_succ, List.replicate_zero, Nat.reduceSub, Nat.reduceAdd, Nat.reduceLT, Nat.reduceLeDiff, Nat.reduceEqDiff, Nat.reduceMul, Nat.reducePow, Int.reduceLT, Int.reduceLE, Int.reduceAdd, Int.reduceMul, Int.reduceSub, Int.reduceNeg, Int.reduceEq, Int.reducePow, Int.reduceMod, Int.reduceDiv, Int.reduceToNat, decide_true, decide_false, and_true, true_and, and_self, Option.some.injEq, iaddV, addV, lenV, S_len, sizeLine_eq, lw]; rfl)]
        have s1 := sl1 (l := l) (n := p + w.length) (s := s) hl (by omega)
        rw [List.getElem?_drop]
        by_cases o : l[p + w.length]? = some 40
        · have t1 : decide ((l.drop (p + w.length)).take 1 = [40]) = true := decide_eq_true (take1.mpr o)
          rw [if_pos o]
          have pl : p + w.length + 1 ≤ l.length := get_lt o
          have kb := knot_body (Ft := FL.F_tree_at n) (Fk := FL.F_knot_at n) hl iht (p := p + w.length + 1) pl (w := S w) (s := s) (deep := deep) (by omega)
          have kn : ∀ r, FL.F_knot_at (n + 1) [.str (S l), .int (((p + w.length : Nat) : Int) + 1), .str (S w), .bl bare, .int deep] s = r → (ifS (isB (opF eqV (sliF (varF 0) (someO (varF 1)) (someO (opF addV (varF 1) (cstF (.int 1))))) (cstF (.str ("(" : Str))))) (retS (callF 5 (FL.F_knot_at (n + 1)) [] (consA (varF 0) (consA (opF addV (varF 1) (cstF (.int 1))) (consA (varF 5) (consA (varF 2) (consA (varF 3) nilA))))))) nxS) (E (p + w.length) a (some (.str (S w)))) s = r.toS (E (p + w.length) a (some (.str (S w)))) fun v s1 => .rt v s1 := fun r hr => by
            simp only [E, open_eq, seqS, ifS, setS, augS, dropS, retS, retN, nxS, bkS, ctS, asgS, subS, R.toS, R.bind, R.of, opF, unF, varF, cstF, chF, isB, asB, andT, orT, notT, andF, orF, notF, ifF, nilA, consA, tupF, lstF, cbF, callF, bmF', truT, truV, nameG, nilG, consG, tupG, List.set_cons_zero, List.set_cons_succ, List.getElem?_cons_zero, List.getElem?_cons_succ, Option.bind_some, Option.bind_none, Option.map_some, Option.map_none, List.length_cons, List.length_nil, List.cons_append, List.nil_append, List.append_nil, if_true, if_false, ite_true, ite_false, Bool.false_eq_true, reduceIte, reduceCtorEq, List.map_cons, List.map_nil, Nat.sub_self, List.replicate_succ, List.replicate_zero, Nat.reduceSub, Nat.reduceAdd, Nat.reduceLT, Nat.reduceLeDiff, Nat.reduceEqDiff, Nat.reduceMul, Nat.reducePow, Int.reduceLT, Int.reduceLE, Int.reduceAdd, Int.reduceMul, Int.reduceSub, Int.reduceNeg, Int.reduceEq, Int.reducePow, Int.reduceMod, Int.reduceDiv, Int.reduceToNat, decide_true, decide_false, and_true, true_and, and_self, Option.some.injEq, sliF, someO, asI, addV, s1, eq_S, t1, hr]
          have e1 : (((p + w.length : Nat) : Int) + 1) = ((p + w.length + 1 : Nat) : Int) := rfl
          rw [e1] at kn
          rw [List.drop_drop, show p + (w.length + 1) = p + w.length + 1 from rfl]
          cases c2 : pArms (pTree bare d) 4 (l.drop (p + w.length + 1)) with
          | none =>
            obtain ⟨e, g', hwh⟩ := kb.2 c2
            have hk : FL.F_knot_at (n + 1) [.str (S l), .int ((p + w.length + 1 : Nat) : Int), .str (S w), .bl bare, .int deep] s = .er nt s := by
              unfold FL.F_knot_at
              refine run_er (g := g') (e := e) ?_ rfl
              unfold b_knot_at
              refine (seqS_nx (e1 := [some (.str (S l)), some (.int ((p + w.length + 1 : Nat) : Int)), some (.str (S w)), some (.bl bare), some (.int deep), some (.ref s.length), none]) (s1 := s ++ [.lst []]) (by simp only [seqS, ifS, setS, augS, dropS, retS, retN, nxS, bkS, ctS, asgS, subS, R.toS, R.bind, R.of, opF, unF, varF, cstF, chF, isB, asB, andT, orT, notT, andF, orF, notF, ifF, nilA, consA, tupF, lstF, cbF, callF, bmF', truT, truV, nameG, nilG, consG, tupG, List.set_cons_zero, List.set_cons_succ, List.getElem?_cons_zero, List.getElem?_cons_succ, Option.bind_some, Option.bind_none, Option.map_some, Option.map_none, List.length_cons, List.length_nil, List.cons_append, List.nil_append, List.append_nil, if_true, if_false, ite_true, ite_false, Bool.false_eq_true, reduceIte, reduceCtorEq, List.map_cons, List.map_nil, Nat.sub_self, List.replicate_succ, List.replicate_zero, Nat.reduceSub, Nat.reduceAdd, Nat.reduceLT, Nat.reduceLeDiff, Nat.reduceEqDiff, Nat.reduceMul, Nat.reducePow, Int.reduceLT, Int.reduceLE, Int.reduceAdd, Int.reduceMul, Int.reduceSub, Int.reduceNeg, Int.reduceEq, Int.reducePow, Int.reduceMod, Int.reduceDiv, Int.reduceToNat, decide_true, decide_false, and_true, true_and, and_self, Option.some.injEq, sizeLine_eq])).trans hwh
            simp only [Option.map_none]
            exact ⟨_, seqS_er (kn _ hk)⟩
          | some x =>
            obtain ⟨as, k⟩ := x
            have hwh := kb.1 as k c2
            have hk : FL.F_knot_at (n + 1) [.str (S l), .int ((p + w.length + 1 : Nat) : Int), .str (S w), .bl bare, .int deep] s = .ok (.tup [(Tr.of (S w) as).pv, .int ((p + w.length + 1 + k : Nat) : Int)]) s := by
              unfold FL.F_knot_at
              refine run_rt (g := [.lst (pvs as)]) ?_ (tp_pure _ _)
              unfold b_knot_at
              refine (seqS_nx (e1 := [some (.str (S l)), some (.int ((p + w.length + 1 : Nat) : Int)), some (.str (S w)), some (.bl bare), some (.int deep), some (.ref s.length), none]) (s1 := s ++ [.lst []]) (by simp only [seqS, ifS, setS, augS, dropS, retS, retN, nxS, bkS, ctS, asgS, subS, R.toS, R.bind, R.of, opF, unF, varF, cstF, chF, isB, asB, andT, orT, notT, andF, orF, notF, ifF, nilA, consA, tupF, lstF, cbF, callF, bmF', truT, truV, nameG, nilG, consG, tupG, List.set_cons_zero, List.set_cons_succ, List.getElem?_cons_zero, List.getElem?_cons_succ, Option.bind_some, Option.bind_none, Option.map_some, Option.map_none, List.length_cons, List.length_nil, List.cons_append, List.nil_append, List.append_nil, if_true, if_false, ite_true, ite_false, Bool.false_eq_true, reduceIte, reduceCtorEq, List.map_cons, List.map_nil, Nat.sub_self, List.replicate_succ, List.replicate_zero, Nat.reduceSub, Nat.reduceAdd, Nat.reduceLT, Nat.reduceLeDiff, Nat.reduceEqDiff, Nat.reduceMul, Nat.reducePow, Int.reduceLT, Int.reduceLE, Int.reduceAdd, Int.reduceMul, Int.reduceSub, Int.reduceNeg, Int.reduceEq, Int.reducePow, Int.reduceMod, Int.reduceDiv, Int.reduceToNat, decide_true, decide_false, and_true, true_and, and_self, Option.some.injEq, sizeLine_eq])).trans hwh
            simp only [Option.map_some]
            rw [seqS_rt (kn _ hk)]
            rw [show p + w.length + 1 + k = p + (w.length + 1 + k) by omega]
        · have t1 : decide ((l.drop (p + w.length)).take 1 = [40]) = false := decide_eq_false fun z => o (take1.mp z)
          rw [if_neg o]
          show seqS _ _ _ _ = _
          rw [seqS_nx (e1 := E (p + w.length) a (some (.str (S w)))) (s1 := s) (by simp only [E, open_eq, seqS, ifS, setS, augS, dropS, retS, retN, nxS, bkS, ctS, asgS, subS, R.toS, R.bind, R.of, opF, unF, varF, cstF, chF, isB, asB, andT, orT, notT, andF, orF, notF, ifF, nilA, consA, tupF, lstF, cbF, callF, bmF', truT, truV, nameG, nilG, consG, tupG, List.set_cons_zero, List.set_cons_succ, List.getElem?_cons_zero, List.getElem?_cons_succ, Option.bind_some, Option.bind_none, Option.map_some, Option.map_none, List.length_cons, List.length_nil, List.cons_append, List.nil_append, List.append_nil, if_true, if_false, ite_true, ite_false, Bool.false_eq_true, reduceIte, reduceCtorEq, List.map_cons, List.map_nil, Nat.sub_self, List.replicate_succ, List.replicate_zero, Nat.reduceSub, Nat.reduceAdd, Nat.reduceLT, Nat.reduceLeDiff, Nat.reduceEqDiff, Nat.reduceMul, Nat.reducePow, Int.reduceLT, Int.reduceLE, Int.reduceAdd, Int.reduceMul, Int.reduceSub, Int.reduceNeg, Int.reduceEq, Int.reducePow, Int.reduceMod, Int.reduceDiv, Int.reduceToNat, decide_true, decide_false, and_true, true_and, and_self, Option.some.injEq, sliF, someO, asI, addV, s1, eq_S, t1])]
          simp only [E, seqS, ifS, setS, augS, dropS, retS, retN, nxS, bkS, ctS, asgS, subS, R.toS, R.bind, R.of, opF, unF, varF, cstF, chF, isB, asB, andT, orT, notT, andF, orF, notF, ifF, nilA, consA, tupF, lstF, cbF, callF, bmF', truT, truV, nameG, nilG, consG, tupG, List.set_cons_zero, List.set_cons_succ, List.getElem?_cons_zero, List.getElem?_cons_succ, Option.bind_some, Option.bind_none, Option.map_some, Option.map_none, List.length_cons, List.length_nil, List.cons_append, List.nil_append, List.append_nil, if_true, if_false, ite_true, ite_false, Bool.false_eq_true, reduceIte, reduceCtorEq, List.map_cons, List.map_nil, Nat.sub_self, List.replicate_succ, List.replicate_zero, Nat.reduceSub, Nat.reduceAdd, Nat.reduceLT, Nat.reduceLeDiff, Nat.reduceEqDiff, Nat.reduceMul, Nat.reducePow, Int.reduceLT, Int.reduceLE, Int.reduceAdd, Int.reduceMul, Int.reduceSub, Int.reduceNeg, Int.reduceEq, Int.reducePow, Int.reduceMod, Int.reduceDiv, Int.reduceToNat, decide_true, decide_false, and_true, true_and, and_self, Option.some.injEq, sizeLine_eq, Tr.pv]
    have fin : ∀ (r : Option (Tr × Nat)), (match r with
        | some (t, k) => b_tree_at (FL.F_tree_at (n + 1)) (FL.F_knot_at (n + 1)) (E p none none) s = .rt (.tup [t.pv, .int ((p + k : Nat) : Int)]) s
        | none => ∃ e, b_tree_at (FL.F_tree_at (n + 1)) (FL.F_knot_at (n + 1)) (E p none none) s = .er nt e s) → FL.F_tree_at (n + 1 + 1) [.str (S l), .int (p : Int), .bl bare, .int deep] s = (match r with
        | some (t, k) => .ok (.tup [t.pv, .int ((p + k : Nat) : Int)]) s
        | none => .er nt s) := fun r h => by
      unfold FL.F_tree_at
      cases r with
      | none =>
        obtain ⟨e, h⟩ := h
        exact run_er (g := []) (by rw [List.append_nil]; exact h) rfl
      | some x => exact run_rt0 h (tp_pure _ _)
    refine fin _ ?_
    unfold pTree
    rw [List.head?_drop]
    have b1 : ∀ h : FS, ¬ g = [] → (∀ c, g = [c] → ¬ (c = 45 ∨ isF c = true)) → seqS (ifS (andT (isB (opF neV (varF 4) (cstF (.str ("" : Str))))) (isB (opF inV (varF 4) (cstF (.str ("-0123456789" : Str)))))) (retS (callF 2 FL.F_number_at [] (consA (varF 0) (consA (varF 1) nilA)))) nxS) h (E p (some (.str (S g))) none) s = h (E p (some (.str (S g))) none) s := fun h g0 gc => by
      obtain ⟨c, hc⟩ : ∃ c, g = [c] := by
        cases g with
        | nil => exact absurd rfl g0
        | cons c r =>
          have : (c :: r).length ≤ 1 := by rw [hg, List.length_take]; omega
          rw [List.length_cons] at this
          exact ⟨c, by rw [List.length_eq_zero_iff.mp (by omega : r.length = 0)]⟩
      have n1 : decide (g = []) = false := decide_eq_false g0
      have m1 : decide (c ∈ 45 :: (List.range 10).map (· + 48)) = false := decide_eq_false fun z => gc c hc (by
        rcases List.mem_cons.mp z with z | z
        · exact .inl z
        · exact .inr (fig_mem.mp z))
      refine seqS_nx ?_
      subst hc
      simp only [E, none_eq, heads_eq, seqS, ifS, setS, augS, dropS, retS, retN, nxS, bkS, ctS, asgS, subS, R.toS, R.bind, R.of, opF, unF, varF, cstF, chF, isB, asB, andT, orT, notT, andF, orF, notF, ifF, nilA, consA, tupF, lstF, cbF, callF, bmF', truT, truV, nameG, nilG, consG, tupG, List.set_cons_zero, List.set_cons_succ, List.getElem?_cons_zero, List.getElem?_cons_succ, Option.bind_some, Option.bind_none, Option.map_some, Option.map_none, List.length_cons, List.length_nil, List.cons_append, List.nil_append, List.append_nil, if_true, if_false, ite_true, ite_false, Bool.false_eq_true, reduceIte, reduceCtorEq, List.map_cons, List.map_nil, Nat.sub_self, List.replicate_succ, List.replicate_zero, Nat.reduceSub, Nat.reduceAdd, Nat.reduceLT, Nat.reduceLeDiff, Nat.reduceEqDiff, Nat.reduceMul, Nat.reducePow, Int.reduceLT, Int.reduceLE, Int.reduceAdd, Int.reduceMul, Int.reduceSub, Int.reduceNeg, Int.reduceEq, Int.reducePow, Int.reduceMod, Int.reduceDiv, Int.reduceToNat, decide_true, decide_false, and_true, true_and, and_self, Option.some.injEq, ne_S, n1, Bool.not_false, in_one, m1]
    cases c0 : l[p]? with
    | none =>
      have g0 : g = [] := by rw [hg]; exact take1_nil c0
      have pe : l.length ≤ p := List.getElem?_eq_none_iff.mp c0
      obtain ⟨fin', h1, h2⟩ := tail (some (.str (S g)))
      have kn : pKnot (pTree bare d) (l.drop p) = none := by
        rw [List.drop_eq_nil_of_le pe]; rfl
      rw [kn] at h2
      obtain ⟨e, h2⟩ := h2
      refine ⟨e, ?_⟩
      unfold b_tree_at
      rw [st1]
      have n1 : decide (g = []) = true := decide_eq_true g0
      have n2 : decide (g = [63]) = false := by rw [g0]; rfl
      rw [seqS_nx (e1 := E p (some (.str (S g))) none) (s1 := s) (by simp only [E, none_eq, seqS, ifS, setS, augS, dropS, retS, retN, nxS, bkS, ctS, asgS, subS, R.toS, R.bind, R.of, opF, unF, varF, cstF, chF, isB, asB, andT, orT, notT, andF, orF, notF, ifF, nilA, consA, tupF, lstF, cbF, callF, bmF', truT, truV, nameG, nilG, consG, tupG, List.set_cons_zero, List.set_cons_succ, List.getElem?_cons_zero, List.getElem?_cons_succ, Option.bind_some, Option.bind_none, Option.map_some, Option.map_none, List.length_cons, List.length_nil, List.cons_append, List.nil_append, List.append_nil, if_true, if_false, ite_true, ite_false, Bool.false_eq_true, reduceIte, reduceCtorEq, List.map_cons, List.map_nil, Nat.sub_self, List.replicate_succ, List.replicate_zero, Nat.reduceSub, Nat.reduceAdd, Nat.reduceLT, Nat.reduceLeDiff, Nat.reduceEqDiff, Nat.reduceMul, Nat.reducePow, Int.reduceLT, Int.reduceLE, Int.reduceAdd, Int.reduceMul, Int.reduceSub, Int.reduceNeg, Int.reduceEq, Int.reducePow, Int.reduceMod, Int.reduceDiv, Int.reduceToNat, decide_true, decide_false, and_true, true_and, and_self, Option.some.injEq, ne_S, n1, Bool.not_true])]
      rw [seqS_nx (e1 := E p (some (.str (S g))) none) (s1 := s) (by simp only [E, ask_eq, seqS, ifS, setS, augS, dropS, retS, retN, nxS, bkS, ctS, asgS, subS, R.toS, R.bind, R.of, opF, unF, varF, cstF, chF, isB, asB, andT, orT, notT, andF, orF, notF, ifF, nilA, consA, tupF, lstF, cbF, callF, bmF', truT, truV, nameG, nilG, consG, tupG, List.set_cons_zero, List.set_cons_succ, List.getElem?_cons_zero, List.getElem?_cons_succ, Option.bind_some, Option.bind_none, Option.map_some, Option.map_none, List.length_cons, List.length_nil, List.cons_append, List.nil_append, List.append_nil, if_true, if_false, ite_true, ite_false, Bool.false_eq_true, reduceIte, reduceCtorEq, List.map_cons, List.map_nil, Nat.sub_self, List.replicate_succ, List.replicate_zero, Nat.reduceSub, Nat.reduceAdd, Nat.reduceLT, Nat.reduceLeDiff, Nat.reduceEqDiff, Nat.reduceMul, Nat.reducePow, Int.reduceLT, Int.reduceLE, Int.reduceAdd, Int.reduceMul, Int.reduceSub, Int.reduceNeg, Int.reduceEq, Int.reducePow, Int.reduceMod, Int.reduceDiv, Int.reduceToNat, decide_true, decide_false, and_true, true_and, and_self, Option.some.injEq, eq_S, n2])]
      rw [h1, h2]
    | some c =>
      have g1 : g = [c] := by rw [hg]; exact take1.mpr c0
      have g0 : ¬ g = [] := by rw [g1]; exact List.cons_ne_nil _ _
      have pl := get_lt c0
      simp only
      by_cases hn : c = 45 ∨ isF c = true
      · rw [if_pos hn]
        have hnum := F_number_at (s := s) hl hp
        have n1 : decide (g = []) = false := decide_eq_false g0
        have m1 : decide (c ∈ 45 :: (List.range 10).map (· + 48)) = true := decide_eq_true (by
          rcases hn with z | z
          · exact List.mem_cons.mpr (.inl z)
          · exact List.mem_cons.mpr (.inr (fig_mem.mpr z)))
        have go : ∀ r, FL.F_number_at [.str (S l), .int (p : Int)] s = r → (ifS (andT (isB (opF neV (varF 4) (cstF (.str ("" : Str))))) (isB (opF inV (varF 4) (cstF (.str ("-0123456789" : Str)))))) (retS (callF 2 FL.F_number_at [] (consA (varF 0) (consA (varF 1) nilA)))) nxS) (E p (some (.str (S g))) none) s = r.toS (E p (some (.str (S g))) none) fun v s1 => .rt v s1 := fun r hr => by
          rw [g1] at n1 ⊢
          simp only [E, none_eq, heads_eq, seqS, ifS, setS, augS, dropS, retS, retN, nxS, bkS, ctS, asgS, subS, R.toS, R.bind, R.of, opF, unF, varF, cstF, chF, isB, asB, andT, orT, notT, andF, orF, notF, ifF, nilA, consA, tupF, lstF, cbF, callF, bmF', truT, truV, nameG, nilG, consG, tupG, List.set_cons_zero, List.set_cons_succ, List.getElem?_cons_zero, List.getElem?_cons_succ, Option.bind_some, Option.bind_none, Option.map_some, Option.map_none, List.length_cons, List.length_nil, List.cons_append, List.nil_append, List.append_nil, if_true, if_false, ite_true, ite_false, Bool.false_eq_true, reduceIte, reduceCtorEq, List.map_cons, List.map_nil, Nat.sub_self, List.replicate_succ, List.replicate_zero, Nat.reduceSub, Nat.reduceAdd, Nat.reduceLT, Nat.reduceLeDiff, Nat.reduceEqDiff, Nat.reduceMul, Nat.reducePow, Int.reduceLT, Int.reduceLE, Int.reduceAdd, Int.reduceMul, Int.reduceSub, Int.reduceNeg, Int.reduceEq, Int.reducePow, Int.reduceMod, Int.reduceDiv, Int.reduceToNat, decide_true, decide_false, and_true, true_and, and_self, Option.some.injEq, ne_S, n1, Bool.not_false, in_one, m1, hr]
        cases c2 : pNum (l.drop p) with
        | none =>
          rw [c2] at hnum
          refine ⟨E p (some (.str (S g))) none, ?_⟩
          unfold b_tree_at
          rw [st1]
          exact seqS_er (go _ hnum)
        | some x =>
          obtain ⟨i, k⟩ := x
          rw [c2] at hnum
          simp only [Option.map_some]
          unfold b_tree_at
          rw [st1]
          exact seqS_rt (go _ hnum)
      · rw [if_neg hn]
        have b1' := fun h => b1 h g0 (fun c' hc' => by rw [g1] at hc'; cases hc'; exact hn)
        by_cases ha : c = 63 ∧ bare = false
        · rw [if_pos ha]
          obtain ⟨ha1, ha2⟩ := ha
          have hw := F_word_at (p := p + 1) (s := s) hl (by omega)
          have tl : (l.drop p).tail = l.drop (p + 1) := List.tail_drop
          rw [tl]
          have n2 : decide (g = [63]) = true := decide_eq_true (by rw [g1, ha1])
          have tst : ∀ f g' : FS, (ifS (andT (isB (opF eqV (varF 4) (cstF (.str ("?" : Str))))) (notT (truT (varF 2)))) f g') (E p (some (.str (S g))) none) s = f (E p (some (.str (S g))) none) s := fun f g' => by
            refine ifS_t ?_
            simp only [E, ha2, ask_eq, seqS, ifS, setS, augS, dropS, retS, retN, nxS, bkS, ctS, asgS, subS, R.toS, R.bind, R.of, opF, unF, varF, cstF, chF, isB, asB, andT, orT, notT, andF, orF, notF, ifF, nilA, consA, tupF, lstF, cbF, callF, bmF', truT, truV, nameG, nilG, consG, tupG, List.set_cons_zero, List.set_cons_succ, List.getElem?_cons_zero, List.getElem?_cons_succ, Option.bind_some, Option.bind_none, Option.map_some, Option.map_none, List.length_cons, List.length_nil, List.cons_append, List.nil_append, List.append_nil, if_true, if_false, ite_true, ite_false, Bool.false_eq_true, reduceIte, reduceCtorEq, List.map_cons, List.map_nil, Nat.sub_self, List.replicate_succ, List.replicate_zero, Nat.reduceSub, Nat.reduceAdd, Nat.reduceLT, Nat.reduceLeDiff, Nat.reduceEqDiff, Nat.reduceMul, Nat.reducePow, Int.reduceLT, Int.reduceLE, Int.reduceAdd, Int.reduceMul, Int.reduceSub, Int.reduceNeg, Int.reduceEq, Int.reducePow, Int.reduceMod, Int.reduceDiv, Int.reduceToNat, decide_true, decide_false, and_true, true_and, and_self, Option.some.injEq, eq_S, n2, Bool.not_false]
          have e1 : ((p : Int) + 1) = ((p + 1 : Nat) : Int) := rfl
          cases c2 : pWord (l.drop (p + 1)) with
          | none =>
            rw [c2] at hw
            refine ⟨E p (some (.str (S g))) none, ?_⟩
            unfold b_tree_at
            rw [st1, b1']
            refine seqS_er ?_
            rw [tst]
            refine seqS_er ?_
            simp only [E, seqS, ifS, setS, augS, dropS, retS, retN, nxS, bkS, ctS, asgS, subS, R.toS, R.bind, R.of, opF, unF, varF, cstF, chF, isB, asB, andT, orT, notT, andF, orF, notF, ifF, nilA, consA, tupF, lstF, cbF, callF, bmF', truT, truV, nameG, nilG, consG, tupG, List.set_cons_zero, List.set_cons_succ, List.getElem?_cons_zero, List.getElem?_cons_succ, Option.bind_some, Option.bind_none, Option.map_some, Option.map_none, List.length_cons, List.length_nil, List.cons_append, List.nil_append, List.append_nil, if_true, if_false, ite_true, ite_false, Bool.false_eq_true, reduceIte, reduceCtorEq, List.map_cons, List.map_nil, Nat.sub_self, List.replicate_succ, List.replicate_zero, Nat.reduceSub, Nat.reduceAdd, Nat.reduceLT, Nat.reduceLeDiff, Nat.reduceEqDiff, Nat.reduceMul, Nat.reducePow, Int.reduceLT, Int.reduceLE, Int.reduceAdd, Int.reduceMul, Int.reduceSub, Int.reduceNeg, Int.reduceEq, Int.reducePow, Int.reduceMod, Int.reduceDiv, Int.reduceToNat, decide_true, decide_false, and_true, true_and, and_self, Option.some.injEq, addV, e1, hw]
          | some w =>
            rw [c2] at hw
            obtain ⟨w1, w2, w3, w4⟩ := pWord_len c2
            have lw : w.length ≤ 16777216 := by omega
            simp only [Option.map_some]
            unfold b_tree_at
            rw [st1, b1']
            refine seqS_rt ?_
            rw [tst, seqS_nx (e1 := E p (some (.str (S g))) (some (.str (S w)))) (s1 := s) (by simp only [E, seqS, ifS, setS, augS, dropS, retS, retN, nxS, bkS, ctS, asgS, subS, R.toS, R.bind, R.of, opF, unF, varF, cstF, chF, isB, asB, andT, orT, notT, andF, orF, notF, ifF, nilA, consA, tupF, lstF, cbF, callF, bmF', truT, truV, nameG, nilG, consG, tupG, List.set_cons_zero, List.set_cons_succ, List.getElem?_cons_zero, List.getElem?_cons_succ, Option.bind_some, Option.bind_none, Option.map_some, Option.map_none, List.length_cons, List.length_nil, List.cons_append, List.nil_append, List.append_nil, if_true, if_false, ite_true, ite_false, Bool.false_eq_true, reduceIte, reduceCtorEq, List.map_cons, List.map_nil, Nat.sub_self, List.replicate_succ, List.replicate_zero, Nat.reduceSub, Nat.reduceAdd, Nat.reduceLT, Nat.reduceLeDiff, Nat.reduceEqDiff, Nat.reduceMul, Nat.reducePow, Int.reduceLT, Int.reduceLE, Int.reduceAdd, Int.reduceMul, Int.reduceSub, Int.reduceNeg, Int.reduceEq, Int.reducePow, Int.reduceMod, Int.reduceDiv, Int.reduceToNat, decide_true, decide_false, and_true, true_and, and_self, Option.some.injEq, addV, e1, hw])]
            have e2 : (p : Int) + 1 + (w.length : Nat) = ((p + (1 + w.length) : Nat) : Int) := by omega
            simp only [E, seqS, ifS, setS, augS, dropS, retS, retN, nxS, bkS, ctS, asgS, subS, R.toS, R.bind, R.of, opF, unF, varF, cstF, chF, isB, asB, andT, orT, notT, andF, orF, notF, ifF, nilA, consA, tupF, lstF, cbF, callF, bmF', truT, truV, nameG, nilG, consG, tupG, List.set_cons_zero, List.set_cons_succ, List.getElem?_cons_zero, List.getElem?_cons_succ, Option.bind_some, Option.bind_none, Option.map_some, Option.map_none, List.length_cons, List.length_nil, List.cons_append, List.nil_append, List.append_nil, if_true, if_false, ite_true, ite_false, Bool.false_eq_true, reduceIte, reduceCtorEq, List.map_cons, List.map_nil, Nat.sub_self, List.replicate_succ, List.replicate_zero, Nat.reduceSub, Nat.reduceAdd, Nat.reduceLT, Nat.reduceLeDiff, Nat.reduceEqDiff, Nat.reduceMul, Nat.reducePow, Int.reduceLT, Int.reduceLE, Int.reduceAdd, Int.reduceMul, Int.reduceSub, Int.reduceNeg, Int.reduceEq, Int.reducePow, Int.reduceMod, Int.reduceDiv, Int.reduceToNat, decide_true, decide_false, and_true, true_and, and_self, Option.some.injEq, addV, lenV, S_len, sizeLine_eq, lw, e2, Tr.pv]
        · rw [if_neg ha]
          have tst : ∀ f : FS, (ifS (andT (isB (opF eqV (varF 4) (cstF (.str ("?" : Str))))) (notT (truT (varF 2)))) f nxS) (E p (some (.str (S g))) none) s = .nx (E p (some (.str (S g))) none) s := fun f => by
            refine (ifS_f (s1 := s) ?_).trans rfl
            by_cases h63 : c = 63
            · have hb : bare = true := by
                cases hb : bare with
                | true => rfl
                | false => exact absurd ⟨h63, hb⟩ ha
              have n2 : decide (g = [63]) = true := decide_eq_true (by rw [g1, h63])
              simp only [E, hb, ask_eq, seqS, ifS, setS, augS, dropS, retS, retN, nxS, bkS, ctS, asgS, subS, R.toS, R.bind, R.of, opF, unF, varF, cstF, chF, isB, asB, andT, orT, notT, andF, orF, notF, ifF, nilA, consA, tupF, lstF, cbF, callF, bmF', truT, truV, nameG, nilG, consG, tupG, List.set_cons_zero, List.set_cons_succ, List.getElem?_cons_zero, List.getElem?_cons_succ, Option.bind_some, Option.bind_none, Option.map_some, Option.map_none, List.length_cons, List.length_nil, List.cons_append, List.nil_append, List.append_nil, if_true, if_false, ite_true, ite_false, Bool.false_eq_true, reduceIte, reduceCtorEq, List.map_cons, List.map_nil, Nat.sub_self, List.replicate_succ, List.replicate_zero, Nat.reduceSub, Nat.reduceAdd, Nat.reduceLT, Nat.reduceLeDiff, Nat.reduceEqDiff, Nat.reduceMul, Nat.reducePow, Int.reduceLT, Int.reduceLE, Int.reduceAdd, Int.reduceMul, Int.reduceSub, Int.reduceNeg, Int.reduceEq, Int.reducePow, Int.reduceMod, Int.reduceDiv, Int.reduceToNat, decide_true, decide_false, and_true, true_and, and_self, Option.some.injEq, eq_S, n2, Bool.not_true]
            · have n2 : decide (g = [63]) = false := decide_eq_false (by rw [g1]; intro z; cases z; exact h63 rfl)
              simp only [E, ask_eq, seqS, ifS, setS, augS, dropS, retS, retN, nxS, bkS, ctS, asgS, subS, R.toS, R.bind, R.of, opF, unF, varF, cstF, chF, isB, asB, andT, orT, notT, andF, orF, notF, ifF, nilA, consA, tupF, lstF, cbF, callF, bmF', truT, truV, nameG, nilG, consG, tupG, List.set_cons_zero, List.set_cons_succ, List.getElem?_cons_zero, List.getElem?_cons_succ, Option.bind_some, Option.bind_none, Option.map_some, Option.map_none, List.length_cons, List.length_nil, List.cons_append, List.nil_append, List.append_nil, if_true, if_false, ite_true, ite_false, Bool.false_eq_true, reduceIte, reduceCtorEq, List.map_cons, List.map_nil, Nat.sub_self, List.replicate_succ, List.replicate_zero, Nat.reduceSub, Nat.reduceAdd, Nat.reduceLT, Nat.reduceLeDiff, Nat.reduceEqDiff, Nat.reduceMul, Nat.reducePow, Int.reduceLT, Int.reduceLE, Int.reduceAdd, Int.reduceMul, Int.reduceSub, Int.reduceNeg, Int.reduceEq, Int.reducePow, Int.reduceMod, Int.reduceDiv, Int.reduceToNat, decide_true, decide_false, and_true, true_and, and_self, Option.some.injEq, eq_S, n2]
          obtain ⟨fin', h1, h2⟩ := tail (some (.str (S g)))
          cases c2 : pKnot (pTree bare d) (l.drop p) with
          | none =>
            rw [c2] at h2
            obtain ⟨e, h2⟩ := h2
            refine ⟨e, ?_⟩
            unfold b_tree_at
            rw [st1, b1', seqS_nx (tst _), h1, h2]
          | some x =>
            obtain ⟨t, k⟩ := x
            rw [c2] at h2
            simp only
            unfold b_tree_at
            rw [st1, b1', seqS_nx (tst _), h1]
            exact h2
end Ps
end
end FL
end
section
set_option linter.all false
set_option maxRecDepth 100000
namespace FL
open PySem PySem.Spec PyProof.Rows L2
noncomputable section
namespace Ps
/-! ## what was read is what stands there -/
theorem dv_lt : ∀ (f : List Nat), (∀ c ∈ f, isF c = true) → NumText.digitsVal f < 10 ^ f.length := by
  have : ∀ (f : List Nat) (a : Nat), (∀ c ∈ f, isF c = true) → f.foldl (fun acc c => acc * 10 + (c - 48)) a < (a + 1) * 10 ^ f.length := fun f => by
    induction f with
    | nil => intro a _; simp
    | cons c r ih =>
      intro a h
      have hc := h c List.mem_cons_self
      unfold isF at hc
      simp only [Bool.and_eq_true, decide_eq_true_eq] at hc
      have := ih (a * 10 + (c - 48)) fun x hx => h x (List.mem_cons_of_mem _ hx)
      rw [List.foldl_cons, List.length_cons, Nat.pow_succ]
      refine Nat.lt_of_lt_of_le this ?_
      rw [Nat.mul_comm (10 ^ r.length) 10, ← Nat.mul_assoc]
      exact Nat.mul_le_mul_right _ (by omega)
  intro f h
  have := this f 0 h
  rw [Nat.zero_add, Nat.one_mul] at this
  exact this
theorem all_digits {f : List Nat} (h : ∀ c ∈ f, isF c = true) : NumText.AllDigits f := fun c hc => by
  have := h c hc
  unfold isF at this
  simp only [Bool.and_eq_true, decide_eq_true_eq] at this
  omega
theorem numL_dv {f : List Nat} (h : ∀ c ∈ f, isF c = true) (h1 : f ≠ []) (h0 : ¬ (f.head? = some 48 ∧ 1 < f.length)) : TL.numL (NumText.digitsVal f) = f := by
  unfold TL.numL
  rw [NumText.toDigits_digitsVal (f.length - 1) f (by have := List.length_pos_iff.mpr h1; omega) (all_digits h) ?_]
  · rw [List.map_map]
    have : ∀ c ∈ f, (Char.toNat ∘ Char.ofNat) c = c := fun c hc => by
      have := all_digits h c hc
      have v : c.isValidChar := .inl (by omega)
      simp only [Function.comp]
      have : ∀ c, c < 58 → (Char.ofNat c).toNat = c := by decide
      exact this c (by omega)
    rw [List.map_congr_left this, List.map_id']
  · by_cases q : f.length = 1
    · exact .inl (by omega)
    · cases f with
      | nil => exact absurd rfl h1
      | cons c r =>
        refine .inr ⟨c, r, rfl, ?_⟩
        have a := all_digits h c List.mem_cons_self
        have : ¬ c = 48 := fun z => h0 ⟨by rw [z]; rfl, by rw [List.length_cons] at q ⊢; omega⟩
        omega
theorem str_num (n : Nat) : ((toString ((n : Nat) : Int) : String) : Str) = S (TL.numL n) := TL.ext_tl (by rw [TL.tl_num]; exact (S_cps _).symm)
theorem str_neg {n : Nat} (h : 1 ≤ n) : ((toString (-((n : Nat) : Int)) : String) : Str) = S (45 :: TL.numL n) := by
  obtain ⟨m, rfl⟩ : ∃ m, n = m + 1 := ⟨n - 1, by omega⟩
  have e : (toString (-((m + 1 : Nat) : Int)) : String) = "-" ++ toString (((m + 1 : Nat)) : Int) := rfl
  refine TL.ext_tl ?_
  show (Str.ofString _).cps.toList = (S _).cps.toList
  rw [e, S_cps, signs_ofString, String.toList_append, List.map_append]
  have q := TL.tl_num (m + 1)
  have q' : (Str.ofString (toString (((m + 1 : Nat)) : Int))).cps.toList = TL.numL (m + 1) := q
  rw [signs_ofString] at q'
  rw [q']
  rfl
theorem dv_pos {f : List Nat} (h : ∀ c ∈ f, isF c = true) (h1 : f ≠ []) (h0 : ¬ f.head? = some 48) : 1 ≤ NumText.digitsVal f := by
  cases f with
  | nil => exact absurd rfl h1
  | cons c r =>
    have a := all_digits h c List.mem_cons_self
    exact NumText.digitsVal_pos (by
      have : ¬ c = 48 := fun z => h0 (by rw [z]; rfl)
      omega)
theorem pow_le {n : Nat} (h : n ≤ 60) : (10 : Nat) ^ n ≤ 10 ^ 60 := Nat.pow_le_pow_right (by decide) h
theorem pNum_spec {r : List Nat} {i : Int} {k : Nat} (h : pNum r = some (i, k)) : (-(10 ^ 60) < i ∧ i < 10 ^ 60) ∧ (Tr.num i).show = S (r.take k) := by
  have big : ((10 ^ 60 : Nat) : Int) = 10 ^ 60 := by decide
  unfold pNum at h
  split at h
  · rename_i q
    cases r with
    | nil => cases q
    | cons a r =>
      cases q
      rw [List.tail_cons] at h
      unfold pFigs at h
      split at h
      · rename_i q
        obtain ⟨q1, q2, q3⟩ := q
        cases h
        have fa : ∀ c ∈ r.takeWhile isF, isF c = true := tw_all
        have ne : r.takeWhile isF ≠ [] := fun z => by rw [z] at q1; simp at q1
        have h0 : ¬ (r.takeWhile isF).head? = some 48 := fun z => q3 ⟨z, .inl rfl⟩
        have lt := dv_lt _ fa
        have le := pow_le q2
        refine ⟨by omega, ?_⟩
        show ((toString (-((NumText.digitsVal (r.takeWhile isF) : Nat) : Int)) : String) : Str) = _
        rw [str_neg (dv_pos fa ne h0), numL_dv fa ne (fun z => h0 z.1)]
        congr 1
        rw [Nat.add_comm, List.take_succ_cons, tw_take]
      · cases h
  · rename_i q
    unfold pFigs at h
    split at h
    · rename_i q
      obtain ⟨q1, q2, q3⟩ := q
      cases h
      have fa : ∀ c ∈ r.takeWhile isF, isF c = true := tw_all
      have ne : r.takeWhile isF ≠ [] := fun z => by rw [z] at q1; simp at q1
      have lt := dv_lt _ fa
      have le := pow_le q2
      refine ⟨by omega, ?_⟩
      show ((toString (((NumText.digitsVal (r.takeWhile isF) : Nat) : Int)) : String) : Str) = _
      rw [str_num, numL_dv fa ne (fun z => q3 ⟨z.1, .inr z.2⟩), tw_take]
    · cases h
theorem pWord_spec {r w : List Nat} (h : pWord r = some w) : IsW (S w) ∧ w = r.take w.length := by
  obtain ⟨h1, h2, h3, h4⟩ := pWord_len h
  refine ⟨⟨w, rfl, h3, h4, fun c hc => ?_⟩, ?_⟩
  · have : isL c = true := tw_all (r := r) c (h2 ▸ hc)
    unfold isL at this
    simpa only [Bool.and_eq_true, decide_eq_true_eq] using this
  · conv => rhs; rw [h2, tw_take]
    exact h2
structure Due (bare : Bool) (d : Nat) (t : Tr) : Prop where
  depth : t.depth ≤ d
  fit : t.Fit
  ok : t.ok = true
  bare : bare = true → t.bare = true
theorem join_cons (x y : Str) (r : List Str) : Txt.join ", " (x :: y :: r) = x ++ ", " ++ Txt.join ", " (y :: r) := by
  show PySem.Builtin.Str.glued ", " (x :: y :: r) = x ++ ", " ++ PySem.Builtin.Str.glued ", " (y :: r)
  rw [StrLaws.glued_eq_join, StrLaws.glued_eq_join]
  rfl
theorem join_one (x : Str) : Txt.join ", " [x] = x := by
  show PySem.Builtin.Str.glued ", " [x] = x
  rw [StrLaws.glued_eq_join]
  rfl
theorem take_c {r : List Nat} {k c : Nat} (h : r[k]? = some c) : r.take (k + 1) = r.take k ++ [c] := by rw [List.take_add_one, h]; rfl
theorem pArms_spec {p : List Nat → Option (Tr × Nat)} {P : Tr → Prop} (hp : ∀ r t k, p r = some (t, k) → P t ∧ t.show = S (r.take k)) : ∀ (m : Nat) (r : List Nat) (as : List Tr) (k : Nat), pArms p m r = some (as, k) →
    as ≠ [] ∧ as.length ≤ m ∧ (∀ t ∈ as, P t) ∧ Txt.join ", " (shows as) ++ ")" = S (r.take k)
  | 0, r, as, k, h => by cases h
  | m + 1, r, as, k, h => by
    unfold pArms at h
    cases c : p r with
    | none => rw [c] at h; cases h
    | some x =>
      obtain ⟨t, k1⟩ := x
      obtain ⟨pt, sh⟩ := hp _ _ _ c
      rw [c] at h
      simp only at h
      split at h
      · rename_i q
        cases h
        refine ⟨List.cons_ne_nil _ _, by simp, fun u hu => by rw [List.mem_singleton] at hu; subst hu; exact pt, ?_⟩
        show Txt.join ", " [t.show] ++ ")" = _
        rw [join_one, sh, close_eq, S_app, take_c q]
      · split at h
        · rename_i q
          obtain ⟨q1, q2, q3⟩ := q
          obtain ⟨x, hx, e⟩ := Option.map_eq_some_iff.mp h
          cases e
          obtain ⟨a1, a2, a3, a4⟩ := pArms_spec hp m _ x.1 x.2 hx
          refine ⟨List.cons_ne_nil _ _, by rw [List.length_cons]; omega, fun u hu => ?_, ?_⟩
          · rcases List.mem_cons.mp hu with rfl | hu
            · exact pt
            · exact a3 u hu
          · obtain ⟨u, us, hu⟩ : ∃ u us, x.1 = u :: us := by
              cases e : x.1 with
              | nil => exact absurd e a1
              | cons u us => exact ⟨u, us, rfl⟩
            have e1 : shows (t :: x.1) = t.show :: u.show :: shows us := by rw [hu]; rfl
            have e2 : shows x.1 = u.show :: shows us := by rw [hu]; rfl
            rw [e2] at a4
            rw [e1, join_cons, PySem.Str.append_assoc, a4, sh, comma_eq, S_app, S_app]
            congr 1
            rw [show k1 + 2 + x.2 = k1 + (2 + x.2) by omega, List.take_add, List.append_assoc]
            congr 1
            rw [List.take_add, List.drop_drop]
            congr 1
            exact (take2.mpr ⟨q1, q2⟩).symm
        · cases h
theorem pTree_spec {bare : Bool} : ∀ (d : Nat) (r : List Nat) (t : Tr) (k : Nat), pTree bare d r = some (t, k) → Due bare d t ∧ t.show = S (r.take k)
  | 0, r, t, k, h => by cases h
  | d + 1, r, t, k, h => by
    unfold pTree at h
    cases r with
    | nil => cases h
    | cons c r =>
      simp only [List.head?_cons] at h
      split at h
      · obtain ⟨x, hx, e⟩ := Option.map_eq_some_iff.mp h
        cases e
        obtain ⟨h1, h2⟩ := pNum_spec (i := x.1) (k := x.2) hx
        exact ⟨⟨by simp [Tr.depth], by simpa only [Tr.Fit] using h1, rfl, fun _ => rfl⟩, h2⟩
      · split at h
        · rename_i q
          obtain ⟨w, hw, e⟩ := Option.map_eq_some_iff.mp h
          cases e
          obtain ⟨h1, h2⟩ := pWord_spec hw
          obtain ⟨q1, q2⟩ := q
          subst q1
          refine ⟨⟨by simp [Tr.depth], by simpa only [Tr.Fit] using h1, rfl, fun z => by rw [q2] at z; cases z⟩, ?_⟩
          show "?" ++ S w = _
          rw [ask_eq, S_app, Nat.add_comm, List.take_succ_cons]
          rw [List.tail_cons] at h2
          rw [← h2]
          rfl
        · unfold pKnot at h
          cases hw : pWord (c :: r) with
          | none => rw [hw] at h; cases h
          | some w =>
            rw [hw] at h
            obtain ⟨h1, h2⟩ := pWord_spec hw
            simp only at h
            split at h
            · rename_i q
              obtain ⟨x, hx, e⟩ := Option.map_eq_some_iff.mp h
              cases e
              obtain ⟨a1, a2, a3, a4⟩ := pArms_spec (P := Due bare d) (pTree_spec d) 4 _ x.1 x.2 hx
              refine ⟨⟨?_, ?_, ?_, fun z => ?_⟩, ?_⟩
              · simp only [Tr.depth]
                have : ∀ as : List Tr, (∀ t ∈ as, Due bare d t) → depthL as ≤ d := fun as => by
                  induction as with
                  | nil => intro _; simp [depthL]
                  | cons a r ih =>
                    intro h
                    have q1 := (h a List.mem_cons_self).depth
                    have q2 := ih fun t ht => h t (List.mem_cons_of_mem _ ht)
                    simp only [depthL]
                    omega
                have := this _ a3
                omega
              · simp only [Tr.Fit]
                exact ⟨h1, a2, FitL_iff.mpr fun t ht => (a3 t ht).fit⟩
              · have : ∀ as : List Tr, (∀ t ∈ as, Due bare d t) → okL as = true := fun as => by
                  induction as with
                  | nil => intro _; rfl
                  | cons a r ih =>
                    intro h
                    simp only [okL, (h a List.mem_cons_self).ok, ih fun t ht => h t (List.mem_cons_of_mem _ ht), Bool.and_self]
                have o := this _ a3
                have ne : x.1.isEmpty = false := by
                  cases e : x.1 with
                  | nil => exact absurd e a1
                  | cons _ _ => rfl
                simp only [Tr.ok, o, ne, Bool.not_false, Bool.and_true, Bool.true_and, decide_eq_true_eq]
                omega
              · have : ∀ as : List Tr, (∀ t ∈ as, Due bare d t) → bareL as = true := fun as => by
                  induction as with
                  | nil => intro _; rfl
                  | cons a r ih =>
                    intro h
                    simp only [bareL, (h a List.mem_cons_self).bare z, ih fun t ht => h t (List.mem_cons_of_mem _ ht), Bool.and_self]
                simp only [Tr.bare]
                exact this _ a3
              · show S w ++ "(" ++ Txt.join ", " (shows x.1) ++ ")" = _
                rw [PySem.Str.append_assoc, PySem.Str.append_assoc, a4, open_eq, S_app, S_app]
                congr 1
                rw [show w.length + 1 + x.2 = w.length + (1 + x.2) by omega, List.take_add, ← h2]
                congr 1
                rw [List.take_add, List.drop_drop]
                congr 1
                exact (take1.mpr q).symm
            · cases h
              refine ⟨⟨by simp [Tr.depth], by simpa only [Tr.Fit] using h1, rfl, fun _ => rfl⟩, ?_⟩
              show S w = _
              rw [← h2]
/-! ### the whole -/
def pWhole (bare : Bool) (l : List Nat) : Option Tr := match pTree bare 30 l with
  | some (t, k) => if k = l.length ∧ t.parts ≤ 120 then some t else none
  | none => none
theorem F_whole_of {l : List Nat} {bare : Bool} {s : Store} (hl : l.length ≤ 200000) : FL.F_whole_of [.str (S l), .bl bare] s = (match pWhole bare l with
    | some t => .ok t.pv s
    | none => .er nt s) := by
  have ht := F_tree (bare := bare) hl 30 64 (by decide) (by decide) 0 s (Nat.zero_le _)
  have e31 : (31 - ((30 : Nat) : Int)) = 1 := by decide
  rw [e31, List.drop_zero] at ht
  have le : l.length ≤ 16777216 := by omega
  unfold pWhole FL.F_whole_of
  cases c : pTree bare 30 l with
  | none =>
    rw [c] at ht
    refine run_er (g := []) (e := [some (.str (S l)), some (.bl bare), none, none]) ?_ rfl
    rw [List.append_nil]
    unfold b_whole_of
    refine seqS_er ?_
    have ht' : FL.F_tree_at 64 [.str (S l), .int 0, .bl bare, .int 1] s = .er nt s := ht
    simp only [seqS, ifS, setS, augS, dropS, retS, retN, nxS, bkS, ctS, asgS, subS, R.toS, R.bind, R.of, opF, unF, varF, cstF, chF, isB, asB, andT, orT, notT, andF, orF, notF, ifF, nilA, consA, tupF, lstF, cbF, callF, bmF', truT, truV, nameG, nilG, consG, tupG, List.set_cons_zero, List.set_cons_succ, List.getElem?_cons_zero, List.getElem?_cons_succ, Option.bind_some, Option.bind_none, Option.map_some, Option.map_none, List.length_cons, List.length_nil, List.cons_append, List.nil_append, List.append_nil, if_true, if_false, ite_true, ite_false, Bool.false_eq_true, reduceIte, reduceCtorEq, List.map_cons, List.map_nil, Nat.sub_self, List.replicate_succ, List.replicate_zero, Nat.reduceSub, Nat.reduceAdd, Nat.reduceLT, Nat.reduceLeDiff, Nat.reduceEqDiff, Nat.reduceMul, Nat.reducePow, Int.reduceLT, Int.reduceLE, Int.reduceAdd, Int.reduceMul, Int.reduceSub, Int.reduceNeg, Int.reduceEq, Int.reducePow, Int.reduceMod, Int.reduceDiv, Int.reduceToNat, decide_true, decide_false, and_true, true_and, and_self, Option.some.injEq, ht']
  | some x =>
    obtain ⟨t, k⟩ := x
    rw [c] at ht
    have ht' : FL.F_tree_at 64 [.str (S l), .int 0, .bl bare, .int 1] s = .ok (.tup [t.pv, .int ((0 + k : Nat) : Int)]) s := ht
    rw [Nat.zero_add] at ht'
    obtain ⟨du, _⟩ := pTree_spec _ _ _ _ c
    have pp := F_parts_ok 64 t s (by have := du.depth; omega)
    have kl := pTree_len _ _ _ _ c
    simp only
    have st : ∀ f : FS, seqS (asgS (tupG 2 (consG (nameG 2) (consG (nameG 3) nilG))) (callF 4 (FL.F_tree_at 64) [] (consA (varF 0) (consA (cstF (.int 0)) (consA (varF 1) (consA (cstF (.int 1)) nilA)))))) f [some (.str (S l)), some (.bl bare), none, none] s = f [some (.str (S l)), some (.bl bare), some t.pv, some (.int (k : Int))] s := fun f => seqS_nx (by simp only [seqS, ifS, setS, augS, dropS, retS, retN, nxS, bkS, ctS, asgS, subS, R.toS, R.bind, R.of, opF, unF, varF, cstF, chF, isB, asB, andT, orT, notT, andF, orF, notF, ifF, nilA, consA, tupF, lstF, cbF, callF, bmF', truT, truV, nameG, nilG, consG, tupG, List.set_cons_zero, List.set_cons_succ, List.getElem?_cons_zero, List.getElem?_cons_succ, Option.bind_some, Option.bind_none, Option.map_some, Option.map_none, List.length_cons, List.length_nil, List.cons_append, List.nil_append, List.append_nil, if_true, if_false, ite_true, ite_false, Bool.false_eq_true, reduceIte, reduceCtorEq, List.map_cons, List.map_nil, Nat.sub_self, List.replicate_succ, List.replicate_zero, Nat.reduceSub, Nat.reduceAdd, Nat.reduceLT, Nat.reduceLeDiff, Nat.reduceEqDiff, Nat.reduceMul, Nat.reducePow, Int.reduceLT, Int.reduceLE, Int.reduceAdd, Int.reduceMul, Int.reduceSub, Int.reduceNeg, Int.reduceEq, Int.reducePow, Int.reduceMod, Int.reduceDiv, Int.reduceToNat, decide_true, decide_false, and_true, true_and, and_self, Option.some.injEq, ht'])
    by_cases q : k = l.length ∧ t.parts ≤ 120
    · rw [if_pos q]
      refine run_rt0 ?_ (pv_pure t)
      unfold b_whole_of
      refine (st _).trans ?_
      have q1 : (k : Int) = (l.length : Nat) := by omega
      have q2 : ¬ ((t.parts : Nat) : Int) > 120 := by omega
      simp only [seqS, ifS, setS, augS, dropS, retS, retN, nxS, bkS, ctS, asgS, subS, R.toS, R.bind, R.of, opF, unF, varF, cstF, chF, isB, asB, andT, orT, notT, andF, orF, notF, ifF, nilA, consA, tupF, lstF, cbF, callF, bmF', truT, truV, nameG, nilG, consG, tupG, List.set_cons_zero, List.set_cons_succ, List.getElem?_cons_zero, List.getElem?_cons_succ, Option.bind_some, Option.bind_none, Option.map_some, Option.map_none, List.length_cons, List.length_nil, List.cons_append, List.nil_append, List.append_nil, if_true, if_false, ite_true, ite_false, Bool.false_eq_true, reduceIte, reduceCtorEq, List.map_cons, List.map_nil, Nat.sub_self, List.replicate_succ, List.replicate_zero, Nat.reduceSub, Nat.reduceAdd, Nat.reduceLT, Nat.reduceLeDiff, Nat.reduceEqDiff, Nat.reduceMul, Nat.reducePow, Int.reduceLT, Int.reduceLE, Int.reduceAdd, Int.reduceMul, Int.reduceSub, Int.reduceNeg, Int.reduceEq, Int.reducePow, Int.reduceMod, Int.reduceDiv, Int.reduceToNat, decide_true, decide_false, and_true, true_and, and_self, Option.some.injEq, lenV, S_len, sizeLine_eq, le, neV, eqB, scEq, q1, Bool.not_true, pp, gtV, cmpV, q2]
    · rw [if_neg q]
      refine run_er (g := []) (e := [some (.str (S l)), some (.bl bare), some t.pv, some (.int (k : Int))]) ?_ rfl
      rw [List.append_nil]
      unfold b_whole_of
      refine (st _).trans ?_
      by_cases q1 : k = l.length
      · have q1' : (k : Int) = (l.length : Nat) := by omega
        have q2 : ((t.parts : Nat) : Int) > 120 := by
          have : ¬ t.parts ≤ 120 := fun z => q ⟨q1, z⟩
          omega
        simp only [seqS, ifS, setS, augS, dropS, retS, retN, nxS, bkS, ctS, asgS, subS, R.toS, R.bind, R.of, opF, unF, varF, cstF, chF, isB, asB, andT, orT, notT, andF, orF, notF, ifF, nilA, consA, tupF, lstF, cbF, callF, bmF', truT, truV, nameG, nilG, consG, tupG, List.set_cons_zero, List.set_cons_succ, List.getElem?_cons_zero, List.getElem?_cons_succ, Option.bind_some, Option.bind_none, Option.map_some, Option.map_none, List.length_cons, List.length_nil, List.cons_append, List.nil_append, List.append_nil, if_true, if_false, ite_true, ite_false, Bool.false_eq_true, reduceIte, reduceCtorEq, List.map_cons, List.map_nil, Nat.sub_self, List.replicate_succ, List.replicate_zero, Nat.reduceSub, Nat.reduceAdd, Nat.reduceLT, Nat.reduceLeDiff, Nat.reduceEqDiff, Nat.reduceMul, Nat.reducePow, Int.reduceLT, Int.reduceLE, Int.reduceAdd, Int.reduceMul, Int.reduceSub, Int.reduceNeg, Int.reduceEq, Int.reducePow, Int.reduceMod, Int.reduceDiv, Int.reduceToNat, decide_true, decide_false, and_true, true_and, and_self, Option.some.injEq, lenV, S_len, sizeLine_eq, le, neV, eqB, scEq, q1', Bool.not_true, pp, gtV, cmpV, q2, raiseS]
      · have q1' : ¬ (k : Int) = (l.length : Nat) := by omega
        simp only [seqS, ifS, setS, augS, dropS, retS, retN, nxS, bkS, ctS, asgS, subS, R.toS, R.bind, R.of, opF, unF, varF, cstF, chF, isB, asB, andT, orT, notT, andF, orF, notF, ifF, nilA, consA, tupF, lstF, cbF, callF, bmF', truT, truV, nameG, nilG, consG, tupG, List.set_cons_zero, List.set_cons_succ, List.getElem?_cons_zero, List.getElem?_cons_succ, Option.bind_some, Option.bind_none, Option.map_some, Option.map_none, List.length_cons, List.length_nil, List.cons_append, List.nil_append, List.append_nil, if_true, if_false, ite_true, ite_false, Bool.false_eq_true, reduceIte, reduceCtorEq, List.map_cons, List.map_nil, Nat.sub_self, List.replicate_succ, List.replicate_zero, Nat.reduceSub, Nat.reduceAdd, Nat.reduceLT, Nat.reduceLeDiff, Nat.reduceEqDiff, Nat.reduceMul, Nat.reducePow, Int.reduceLT, Int.reduceLE, Int.reduceAdd, Int.reduceMul, Int.reduceSub, Int.reduceNeg, Int.reduceEq, Int.reducePow, Int.reduceMod, Int.reduceDiv, Int.reduceToNat, decide_true, decide_false, and_true, true_and, and_self, Option.some.injEq, lenV, S_len, sizeLine_eq, le, neV, eqB, scEq, q1', Bool.not_false, raiseS]
theorem F_read {l : List Nat} {s : Store} (hl : l.length ≤ 200000) : FL.F_read [.str (S l)] s = (match pWhole true l with
    | some t => .ok t.pv s
    | none => .er nt s) := by
  have h := F_whole_of (bare := true) (s := s) hl
  unfold FL.F_read
  cases c : pWhole true l with
  | none =>
    rw [c] at h
    refine run_er (g := []) (e := [some (.str (S l))]) ?_ rfl
    simp only [b_read, seqS, ifS, setS, augS, dropS, retS, retN, nxS, bkS, ctS, asgS, subS, R.toS, R.bind, R.of, opF, unF, varF, cstF, chF, isB, asB, andT, orT, notT, andF, orF, notF, ifF, nilA, consA, tupF, lstF, cbF, callF, bmF', truT, truV, nameG, nilG, consG, tupG, List.set_cons_zero, List.set_cons_succ, List.getElem?_cons_zero, List.getElem?_cons_succ, Option.bind_some, Option.bind_none, Option.map_some, Option.map_none, List.length_cons, List.length_nil, List.cons_append, List.nil_append, List.append_nil, if_true, if_false, ite_true, ite_false, Bool.false_eq_true, reduceIte, reduceCtorEq, List.map_cons, List.map_nil, Nat.sub_self, List.replicate_succ, List.replicate_zero, Nat.reduceSub, Nat.reduceAdd, Nat.reduceLT, Nat.reduceLeDiff, Nat.reduceEqDiff, Nat.reduceMul, Nat.reducePow, Int.reduceLT, Int.reduceLE, Int.reduceAdd, Int.reduceMul, Int.reduceSub, Int.reduceNeg, Int.reduceEq, Int.reducePow, Int.reduceMod, Int.reduceDiv, Int.reduceToNat, decide_true, decide_false, and_true, true_and, and_self, Option.some.injEq, h]
  | some t =>
    rw [c] at h
    refine run_rt0 ?_ (pv_pure t)
    simp only [b_read, seqS, ifS, setS, augS, dropS, retS, retN, nxS, bkS, ctS, asgS, subS, R.toS, R.bind, R.of, opF, unF, varF, cstF, chF, isB, asB, andT, orT, notT, andF, orF, notF, ifF, nilA, consA, tupF, lstF, cbF, callF, bmF', truT, truV, nameG, nilG, consG, tupG, List.set_cons_zero, List.set_cons_succ, List.getElem?_cons_zero, List.getElem?_cons_succ, Option.bind_some, Option.bind_none, Option.map_some, Option.map_none, List.length_cons, List.length_nil, List.cons_append, List.nil_append, List.append_nil, if_true, if_false, ite_true, ite_false, Bool.false_eq_true, reduceIte, reduceCtorEq, List.map_cons, List.map_nil, Nat.sub_self, List.replicate_succ, List.replicate_zero, Nat.reduceSub, Nat.reduceAdd, Nat.reduceLT, Nat.reduceLeDiff, Nat.reduceEqDiff, Nat.reduceMul, Nat.reducePow, Int.reduceLT, Int.reduceLE, Int.reduceAdd, Int.reduceMul, Int.reduceSub, Int.reduceNeg, Int.reduceEq, Int.reducePow, Int.reduceMod, Int.reduceDiv, Int.reduceToNat, decide_true, decide_false, and_true, true_and, and_self, Option.some.injEq, h]
theorem F_read_pattern {l : List Nat} {s : Store} (hl : l.length ≤ 200000) : FL.F_read_pattern [.str (S l)] s = (match pWhole false l with
    | some t => .ok t.pv s
    | none => .er nt s) := by
  have h := F_whole_of (bare := false) (s := s) hl
  unfold FL.F_read_pattern
  cases c : pWhole false l with
  | none =>
    rw [c] at h
    refine run_er (g := []) (e := [some (.str (S l))]) ?_ rfl
    simp only [b_read_pattern, seqS, ifS, setS, augS, dropS, retS, retN, nxS, bkS, ctS, asgS, subS, R.toS, R.bind, R.of, opF, unF, varF, cstF, chF, isB, asB, andT, orT, notT, andF, orF, notF, ifF, nilA, consA, tupF, lstF, cbF, callF, bmF', truT, truV, nameG, nilG, consG, tupG, List.set_cons_zero, List.set_cons_succ, List.getElem?_cons_zero, List.getElem?_cons_succ, Option.bind_some, Option.bind_none, Option.map_some, Option.map_none, List.length_cons, List.length_nil, List.cons_append, List.nil_append, List.append_nil, if_true, if_false, ite_true, ite_false, Bool.false_eq_true, reduceIte, reduceCtorEq, List.map_cons, List.map_nil, Nat.sub_self, List.replicate_succ, List.replicate_zero, Nat.reduceSub, Nat.reduceAdd, Nat.reduceLT, Nat.reduceLeDiff, Nat.reduceEqDiff, Nat.reduceMul, Nat.reducePow, Int.reduceLT, Int.reduceLE, Int.reduceAdd, Int.reduceMul, Int.reduceSub, Int.reduceNeg, Int.reduceEq, Int.reducePow, Int.reduceMod, Int.reduceDiv, Int.reduceToNat, decide_true, decide_false, and_true, true_and, and_self, Option.some.injEq, h]
  | some t =>
    rw [c] at h
    refine run_rt0 ?_ (pv_pure t)
    simp only [b_read_pattern, seqS, ifS, setS, augS, dropS, retS, retN, nxS, bkS, ctS, asgS, subS, R.toS, R.bind, R.of, opF, unF, varF, cstF, chF, isB, asB, andT, orT, notT, andF, orF, notF, ifF, nilA, consA, tupF, lstF, cbF, callF, bmF', truT, truV, nameG, nilG, consG, tupG, List.set_cons_zero, List.set_cons_succ, List.getElem?_cons_zero, List.getElem?_cons_succ, Option.bind_some, Option.bind_none, Option.map_some, Option.map_none, List.length_cons, List.length_nil, List.cons_append, List.nil_append, List.append_nil, if_true, if_false, ite_true, ite_false, Bool.false_eq_true, reduceIte, reduceCtorEq, List.map_cons, List.map_nil, Nat.sub_self, List.replicate_succ, List.replicate_zero, Nat.reduceSub, Nat.reduceAdd, Nat.reduceLT, Nat.reduceLeDiff, Nat.reduceEqDiff, Nat.reduceMul, Nat.reducePow, Int.reduceLT, Int.reduceLE, Int.reduceAdd, Int.reduceMul, Int.reduceSub, Int.reduceNeg, Int.reduceEq, Int.reducePow, Int.reduceMod, Int.reduceDiv, Int.reduceToNat, decide_true, decide_false, and_true, true_and, and_self, Option.some.injEq, h]
theorem pWhole_spec {bare : Bool} {l : List Nat} {t : Tr} (h : pWhole bare l = some t) : Due bare 30 t ∧ t.parts ≤ 120 ∧ t.show = S l := by
  unfold pWhole at h
  cases c : pTree bare 30 l with
  | none => rw [c] at h; cases h
  | some x =>
    obtain ⟨t', k⟩ := x
    rw [c] at h
    simp only at h
    split at h
    · rename_i q
      cases h
      obtain ⟨h1, h2⟩ := pTree_spec _ _ _ _ c
      rw [q.1, List.take_length] at h2
      exact ⟨h1, q.2, h2⟩
    · cases h
end Ps
end
end FL
end
section
set_option linter.all false
set_option maxRecDepth 100000
namespace FL
open PySem PySem.Spec PyProof.Rows L2
noncomputable section
namespace Ps
/-! ## asked for -/
abbrev XN7 : List String × List String := (["NoTree"], ["SameError", "NoTree", "NoRule", "NoRow", "Full", "Apart", "TooBig", "TooWide"])
abbrev told : PV := .tup [.bl true, .bl true, .bl false]
theorem F_other {s : Store} : FL.F_L_other [.exc "NoTree"] s = .ok (.bl false) s := by
  unfold FL.F_L_other
  refine run_rt0 ?_ rfl
  have i1 : ∀ s, isEV XN7 [.exc "NoTree", .cls "NoRule"] s = some (.bl false, s) := fun s => rfl
  have i2 : ∀ s, isEV XN7 [.exc "NoTree", .cls "NoRow"] s = some (.bl false, s) := fun s => rfl
  have i3 : ∀ s, isEV XN7 [.exc "NoTree", .cls "Full"] s = some (.bl false, s) := fun s => rfl
  have i4 : ∀ s, isEV XN7 [.exc "NoTree", .cls "Apart"] s = some (.bl false, s) := fun s => rfl
  have i5 : ∀ s, isEV XN7 [.exc "NoTree", .cls "TooBig"] s = some (.bl false, s) := fun s => rfl
  have i6 : ∀ s, isEV XN7 [.exc "NoTree", .cls "TooWide"] s = some (.bl false, s) := fun s => rfl
  simp only [b_L_other, seqS, ifS, setS, augS, dropS, retS, retN, nxS, bkS, ctS, asgS, subS, R.toS, R.bind, R.of, opF, unF, varF, cstF, chF, isB, asB, andT, orT, notT, andF, orF, notF, ifF, nilA, consA, tupF, lstF, cbF, callF, bmF', truT, truV, nameG, nilG, consG, tupG, List.set_cons_zero, List.set_cons_succ, List.getElem?_cons_zero, List.getElem?_cons_succ, Option.bind_some, Option.bind_none, Option.map_some, Option.map_none, List.length_cons, List.length_nil, List.cons_append, List.nil_append, List.append_nil, if_true, if_false, ite_true, ite_false, Bool.false_eq_true, reduceIte, reduceCtorEq, List.map_cons, List.map_nil, Nat.sub_self, List.replicate_succ, List.replicate_zero, Nat.reduceSub, Nat.reduceAdd, Nat.reduceLT, Nat.reduceLeDiff, Nat.reduceEqDiff, Nat.reduceMul, Nat.reducePow, Int.reduceLT, Int.reduceLE, Int.reduceAdd, Int.reduceMul, Int.reduceSub, Int.reduceNeg, Int.reduceEq, Int.reducePow, Int.reduceMod, Int.reduceDiv, Int.reduceToNat, decide_true, decide_false, and_true, true_and, and_self, Option.some.injEq, i1, i2, i3, i4, i5, i6]
def askV (h : Bool) (l : List Nat) : PV := match pWhole (!h) l with
  | some t => .tup [t.pv, .non]
  | none => .tup [.non, told]
theorem askV_some {h : Bool} {l : List Nat} {t : Tr} (e : pWhole (!h) l = some t) : askV h l = .tup [t.pv, .non] := by unfold askV; rw [e]
theorem askV_none {h : Bool} {l : List Nat} (e : pWhole (!h) l = none) : askV h l = .tup [.non, told] := by unfold askV; rw [e]
theorem F_asked {l : List Nat} {h : Bool} {s : Store} (hl : l.length ≤ 200000) : FL.F_L_asked [.str (S l), .bl h] s = .ok (askV h l) s := by
  let E : Option PV → Option PV → Option PV → Env := fun a b c => [some (.str (S l)), some (.bl h), a, b, c]
  have r1 := F_read (s := s) hl
  have r2 := F_read_pattern (s := s) hl
  have hb : ∀ t, pWhole (!h) l = some t → (ifS (truT (varF 1)) (setS 2 (callF 1 FL.F_read_pattern [] (consA (varF 0) nilA))) (setS 2 (callF 1 FL.F_read [] (consA (varF 0) nilA)))) (E (some .non) (some .non) none) s = .nx (E (some t.pv) (some .non) none) s := fun t ht => by
    cases h with
    | true => rw [show (!true) = false from rfl] at ht; rw [ht] at r2; simp only [E, seqS, ifS, setS, augS, dropS, retS, retN, nxS, bkS, ctS, asgS, subS, R.toS, R.bind, R.of, opF, unF, varF, cstF, chF, isB, asB, andT, orT, notT, andF, orF, notF, ifF, nilA, consA, tupF, lstF, cbF, callF, bmF', truT, truV, nameG, nilG, consG, tupG, List.set_cons_zero, List.set_cons_succ, List.getElem?_cons_zero, List.getElem?_cons_succ, Option.bind_some, Option.bind_none, Option.map_some, Option.map_none, List.length_cons, List.length_nil, List.cons_append, List.nil_append, List.append_nil, if_true, if_false, ite_true, ite_false, Bool.false_eq_true, reduceIte, reduceCtorEq, List.map_cons, List.map_nil, Nat.sub_self, List.replicate_succ, List.replicate_zero, Nat.reduceSub, Nat.reduceAdd, Nat.reduceLT, Nat.reduceLeDiff, Nat.reduceEqDiff, Nat.reduceMul, Nat.reducePow, Int.reduceLT, Int.reduceLE, Int.reduceAdd, Int.reduceMul, Int.reduceSub, Int.reduceNeg, Int.reduceEq, Int.reducePow, Int.reduceMod, Int.reduceDiv, Int.reduceToNat, decide_true, decide_false, and_true, true_and, and_self, Option.some.injEq, r2]
    | false => rw [show (!false) = true from rfl] at ht; rw [ht] at r1; simp only [E, seqS, ifS, setS, augS, dropS, retS, retN, nxS, bkS, ctS, asgS, subS, R.toS, R.bind, R.of, opF, unF, varF, cstF, chF, isB, asB, andT, orT, notT, andF, orF, notF, ifF, nilA, consA, tupF, lstF, cbF, callF, bmF', truT, truV, nameG, nilG, consG, tupG, List.set_cons_zero, List.set_cons_succ, List.getElem?_cons_zero, List.getElem?_cons_succ, Option.bind_some, Option.bind_none, Option.map_some, Option.map_none, List.length_cons, List.length_nil, List.cons_append, List.nil_append, List.append_nil, if_true, if_false, ite_true, ite_false, Bool.false_eq_true, reduceIte, reduceCtorEq, List.map_cons, List.map_nil, Nat.sub_self, List.replicate_succ, List.replicate_zero, Nat.reduceSub, Nat.reduceAdd, Nat.reduceLT, Nat.reduceLeDiff, Nat.reduceEqDiff, Nat.reduceMul, Nat.reducePow, Int.reduceLT, Int.reduceLE, Int.reduceAdd, Int.reduceMul, Int.reduceSub, Int.reduceNeg, Int.reduceEq, Int.reducePow, Int.reduceMod, Int.reduceDiv, Int.reduceToNat, decide_true, decide_false, and_true, true_and, and_self, Option.some.injEq, r1]
  have hn : pWhole (!h) l = none → (ifS (truT (varF 1)) (setS 2 (callF 1 FL.F_read_pattern [] (consA (varF 0) nilA))) (setS 2 (callF 1 FL.F_read [] (consA (varF 0) nilA)))) (E (some .non) (some .non) none) s = .er nt (E (some .non) (some .non) none) s := fun ht => by
    cases h with
    | true => rw [show (!true) = false from rfl] at ht; rw [ht] at r2; simp only [E, seqS, ifS, setS, augS, dropS, retS, retN, nxS, bkS, ctS, asgS, subS, R.toS, R.bind, R.of, opF, unF, varF, cstF, chF, isB, asB, andT, orT, notT, andF, orF, notF, ifF, nilA, consA, tupF, lstF, cbF, callF, bmF', truT, truV, nameG, nilG, consG, tupG, List.set_cons_zero, List.set_cons_succ, List.getElem?_cons_zero, List.getElem?_cons_succ, Option.bind_some, Option.bind_none, Option.map_some, Option.map_none, List.length_cons, List.length_nil, List.cons_append, List.nil_append, List.append_nil, if_true, if_false, ite_true, ite_false, Bool.false_eq_true, reduceIte, reduceCtorEq, List.map_cons, List.map_nil, Nat.sub_self, List.replicate_succ, List.replicate_zero, Nat.reduceSub, Nat.reduceAdd, Nat.reduceLT, Nat.reduceLeDiff, Nat.reduceEqDiff, Nat.reduceMul, Nat.reducePow, Int.reduceLT, Int.reduceLE, Int.reduceAdd, Int.reduceMul, Int.reduceSub, Int.reduceNeg, Int.reduceEq, Int.reducePow, Int.reduceMod, Int.reduceDiv, Int.reduceToNat, decide_true, decide_false, and_true, true_and, and_self, Option.some.injEq, r2]
    | false => rw [show (!false) = true from rfl] at ht; rw [ht] at r1; simp only [E, seqS, ifS, setS, augS, dropS, retS, retN, nxS, bkS, ctS, asgS, subS, R.toS, R.bind, R.of, opF, unF, varF, cstF, chF, isB, asB, andT, orT, notT, andF, orF, notF, ifF, nilA, consA, tupF, lstF, cbF, callF, bmF', truT, truV, nameG, nilG, consG, tupG, List.set_cons_zero, List.set_cons_succ, List.getElem?_cons_zero, List.getElem?_cons_succ, Option.bind_some, Option.bind_none, Option.map_some, Option.map_none, List.length_cons, List.length_nil, List.cons_append, List.nil_append, List.append_nil, if_true, if_false, ite_true, ite_false, Bool.false_eq_true, reduceIte, reduceCtorEq, List.map_cons, List.map_nil, Nat.sub_self, List.replicate_succ, List.replicate_zero, Nat.reduceSub, Nat.reduceAdd, Nat.reduceLT, Nat.reduceLeDiff, Nat.reduceEqDiff, Nat.reduceMul, Nat.reducePow, Int.reduceLT, Int.reduceLE, Int.reduceAdd, Int.reduceMul, Int.reduceSub, Int.reduceNeg, Int.reduceEq, Int.reducePow, Int.reduceMod, Int.reduceDiv, Int.reduceToNat, decide_true, decide_false, and_true, true_and, and_self, Option.some.injEq, r1]
  unfold FL.F_L_asked
  cases c : pWhole (!h) l with
  | some t =>
    rw [askV_some c]
    refine run_rt0 ?_ (by simp only [pureP, puresP, pv_pure, Bool.and_true])
    unfold b_L_asked
    refine (seqS_nx (e1 := E (some .non) none none) (s1 := s) (by simp only [seqS, ifS, setS, augS, dropS, retS, retN, nxS, bkS, ctS, asgS, subS, R.toS, R.bind, R.of, opF, unF, varF, cstF, chF, isB, asB, andT, orT, notT, andF, orF, notF, ifF, nilA, consA, tupF, lstF, cbF, callF, bmF', truT, truV, nameG, nilG, consG, tupG, List.set_cons_zero, List.set_cons_succ, List.getElem?_cons_zero, List.getElem?_cons_succ, Option.bind_some, Option.bind_none, Option.map_some, Option.map_none, List.length_cons, List.length_nil, List.cons_append, List.nil_append, List.append_nil, if_true, if_false, ite_true, ite_false, Bool.false_eq_true, reduceIte, reduceCtorEq, List.map_cons, List.map_nil, Nat.sub_self, List.replicate_succ, List.replicate_zero, Nat.reduceSub, Nat.reduceAdd, Nat.reduceLT, Nat.reduceLeDiff, Nat.reduceEqDiff, Nat.reduceMul, Nat.reducePow, Int.reduceLT, Int.reduceLE, Int.reduceAdd, Int.reduceMul, Int.reduceSub, Int.reduceNeg, Int.reduceEq, Int.reducePow, Int.reduceMod, Int.reduceDiv, Int.reduceToNat, decide_true, decide_false, and_true, true_and, and_self, Option.some.injEq]; rfl)).trans ?_
    refine (seqS_nx (e1 := E (some .non) (some .non) none) (s1 := s) (by simp only [E, seqS, ifS, setS, augS, dropS, retS, retN, nxS, bkS, ctS, asgS, subS, R.toS, R.bind, R.of, opF, unF, varF, cstF, chF, isB, asB, andT, orT, notT, andF, orF, notF, ifF, nilA, consA, tupF, lstF, cbF, callF, bmF', truT, truV, nameG, nilG, consG, tupG, List.set_cons_zero, List.set_cons_succ, List.getElem?_cons_zero, List.getElem?_cons_succ, Option.bind_some, Option.bind_none, Option.map_some, Option.map_none, List.length_cons, List.length_nil, List.cons_append, List.nil_append, List.append_nil, if_true, if_false, ite_true, ite_false, Bool.false_eq_true, reduceIte, reduceCtorEq, List.map_cons, List.map_nil, Nat.sub_self, List.replicate_succ, List.replicate_zero, Nat.reduceSub, Nat.reduceAdd, Nat.reduceLT, Nat.reduceLeDiff, Nat.reduceEqDiff, Nat.reduceMul, Nat.reducePow, Int.reduceLT, Int.reduceLE, Int.reduceAdd, Int.reduceMul, Int.reduceSub, Int.reduceNeg, Int.reduceEq, Int.reducePow, Int.reduceMod, Int.reduceDiv, Int.reduceToNat, decide_true, decide_false, and_true, true_and, and_self, Option.some.injEq])).trans ?_
    refine (seqS_nx (e1 := E (some t.pv) (some .non) none) (s1 := s) (by unfold tryAsS; rw [hb t c])).trans ?_
    simp only [E, seqS, ifS, setS, augS, dropS, retS, retN, nxS, bkS, ctS, asgS, subS, R.toS, R.bind, R.of, opF, unF, varF, cstF, chF, isB, asB, andT, orT, notT, andF, orF, notF, ifF, nilA, consA, tupF, lstF, cbF, callF, bmF', truT, truV, nameG, nilG, consG, tupG, List.set_cons_zero, List.set_cons_succ, List.getElem?_cons_zero, List.getElem?_cons_succ, Option.bind_some, Option.bind_none, Option.map_some, Option.map_none, List.length_cons, List.length_nil, List.cons_append, List.nil_append, List.append_nil, if_true, if_false, ite_true, ite_false, Bool.false_eq_true, reduceIte, reduceCtorEq, List.map_cons, List.map_nil, Nat.sub_self, List.replicate_succ, List.replicate_zero, Nat.reduceSub, Nat.reduceAdd, Nat.reduceLT, Nat.reduceLeDiff, Nat.reduceEqDiff, Nat.reduceMul, Nat.reducePow, Int.reduceLT, Int.reduceLE, Int.reduceAdd, Int.reduceMul, Int.reduceSub, Int.reduceNeg, Int.reduceEq, Int.reducePow, Int.reduceMod, Int.reduceDiv, Int.reduceToNat, decide_true, decide_false, and_true, true_and, and_self, Option.some.injEq, sizeLine_eq]
  | none =>
    rw [askV_none c]
    refine run_rt0 ?_ rfl
    unfold b_L_asked
    refine (seqS_nx (e1 := E (some .non) none none) (s1 := s) (by simp only [seqS, ifS, setS, augS, dropS, retS, retN, nxS, bkS, ctS, asgS, subS, R.toS, R.bind, R.of, opF, unF, varF, cstF, chF, isB, asB, andT, orT, notT, andF, orF, notF, ifF, nilA, consA, tupF, lstF, cbF, callF, bmF', truT, truV, nameG, nilG, consG, tupG, List.set_cons_zero, List.set_cons_succ, List.getElem?_cons_zero, List.getElem?_cons_succ, Option.bind_some, Option.bind_none, Option.map_some, Option.map_none, List.length_cons, List.length_nil, List.cons_append, List.nil_append, List.append_nil, if_true, if_false, ite_true, ite_false, Bool.false_eq_true, reduceIte, reduceCtorEq, List.map_cons, List.map_nil, Nat.sub_self, List.replicate_succ, List.replicate_zero, Nat.reduceSub, Nat.reduceAdd, Nat.reduceLT, Nat.reduceLeDiff, Nat.reduceEqDiff, Nat.reduceMul, Nat.reducePow, Int.reduceLT, Int.reduceLE, Int.reduceAdd, Int.reduceMul, Int.reduceSub, Int.reduceNeg, Int.reduceEq, Int.reducePow, Int.reduceMod, Int.reduceDiv, Int.reduceToNat, decide_true, decide_false, and_true, true_and, and_self, Option.some.injEq]; rfl)).trans ?_
    refine (seqS_nx (e1 := E (some .non) (some .non) none) (s1 := s) (by simp only [E, seqS, ifS, setS, augS, dropS, retS, retN, nxS, bkS, ctS, asgS, subS, R.toS, R.bind, R.of, opF, unF, varF, cstF, chF, isB, asB, andT, orT, notT, andF, orF, notF, ifF, nilA, consA, tupF, lstF, cbF, callF, bmF', truT, truV, nameG, nilG, consG, tupG, List.set_cons_zero, List.set_cons_succ, List.getElem?_cons_zero, List.getElem?_cons_succ, Option.bind_some, Option.bind_none, Option.map_some, Option.map_none, List.length_cons, List.length_nil, List.cons_append, List.nil_append, List.append_nil, if_true, if_false, ite_true, ite_false, Bool.false_eq_true, reduceIte, reduceCtorEq, List.map_cons, List.map_nil, Nat.sub_self, List.replicate_succ, List.replicate_zero, Nat.reduceSub, Nat.reduceAdd, Nat.reduceLT, Nat.reduceLeDiff, Nat.reduceEqDiff, Nat.reduceMul, Nat.reducePow, Int.reduceLT, Int.reduceLE, Int.reduceAdd, Int.reduceMul, Int.reduceSub, Int.reduceNeg, Int.reduceEq, Int.reducePow, Int.reduceMod, Int.reduceDiv, Int.reduceToNat, decide_true, decide_false, and_true, true_and, and_self, Option.some.injEq])).trans ?_
    refine (seqS_nx (e1 := E (some .non) (some told) none) (s1 := s) ?_).trans ?_
    · unfold tryAsS
      rw [hn c]
      have i1 : ∀ s, isEV XN7 [.exc "NoTree", .cls "NoTree"] s = some (.bl true, s) := fun s => rfl
      have i2 : ∀ s, isEV XN7 [.exc "NoTree", .ty "ValueError"] s = some (.bl true, s) := fun s => rfl
      have hf : (tupF (consA (cbF (isEV XN7) (consA (varF 4) (consA (cstF (.cls "NoTree")) nilA))) (consA (cbF (isEV XN7) (consA (varF 4) (consA (cstF (.ty "ValueError")) nilA))) (consA (callF 1 FL.F_L_other [] (consA (varF 4) nilA)) nilA)))) [some (.str (S l)), some (.bl h), some .non, some .non, some (.exc "NoTree")] s = .ok told s := by
        simp only [seqS, ifS, setS, augS, dropS, retS, retN, nxS, bkS, ctS, asgS, subS, R.toS, R.bind, R.of, opF, unF, varF, cstF, chF, isB, asB, andT, orT, notT, andF, orF, notF, ifF, nilA, consA, tupF, lstF, cbF, callF, bmF', truT, truV, nameG, nilG, consG, tupG, List.set_cons_zero, List.set_cons_succ, List.getElem?_cons_zero, List.getElem?_cons_succ, Option.bind_some, Option.bind_none, Option.map_some, Option.map_none, List.length_cons, List.length_nil, List.cons_append, List.nil_append, List.append_nil, if_true, if_false, ite_true, ite_false, Bool.false_eq_true, reduceIte, reduceCtorEq, List.map_cons, List.map_nil, Nat.sub_self, List.replicate_succ, List.replicate_zero, Nat.reduceSub, Nat.reduceAdd, Nat.reduceLT, Nat.reduceLeDiff, Nat.reduceEqDiff, Nat.reduceMul, Nat.reducePow, Int.reduceLT, Int.reduceLE, Int.reduceAdd, Int.reduceMul, Int.reduceSub, Int.reduceNeg, Int.reduceEq, Int.reducePow, Int.reduceMod, Int.reduceDiv, Int.reduceToNat, decide_true, decide_false, and_true, true_and, and_self, Option.some.injEq, i1, i2, F_other, sizeLine_eq]
      simp only [E, List.set_cons_succ, List.set_cons_zero, hf, List.mem_singleton, if_true, show isEx "NoTree" "SameError" = true by decide, show noX told = true from rfl, and_self]
    · simp only [E, seqS, ifS, setS, augS, dropS, retS, retN, nxS, bkS, ctS, asgS, subS, R.toS, R.bind, R.of, opF, unF, varF, cstF, chF, isB, asB, andT, orT, notT, andF, orF, notF, ifF, nilA, consA, tupF, lstF, cbF, callF, bmF', truT, truV, nameG, nilG, consG, tupG, List.set_cons_zero, List.set_cons_succ, List.getElem?_cons_zero, List.getElem?_cons_succ, Option.bind_some, Option.bind_none, Option.map_some, Option.map_none, List.length_cons, List.length_nil, List.cons_append, List.nil_append, List.append_nil, if_true, if_false, ite_true, ite_false, Bool.false_eq_true, reduceIte, reduceCtorEq, List.map_cons, List.map_nil, Nat.sub_self, List.replicate_succ, List.replicate_zero, Nat.reduceSub, Nat.reduceAdd, Nat.reduceLT, Nat.reduceLeDiff, Nat.reduceEqDiff, Nat.reduceMul, Nat.reducePow, Int.reduceLT, Int.reduceLE, Int.reduceAdd, Int.reduceMul, Int.reduceSub, Int.reduceNeg, Int.reduceEq, Int.reducePow, Int.reduceMod, Int.reduceDiv, Int.reduceToNat, decide_true, decide_false, and_true, true_and, and_self, Option.some.injEq, sizeLine_eq]
theorem enum_at {xs : List PV} : ∀ {i k : Nat} {x : PV}, (enumL xs k)[i]? = some x → ∃ y, xs[i]? = some y ∧ x = .tup [.int ((k + i : Nat) : Int), y] := by
  induction xs with
  | nil => intro i k x h; cases h
  | cons a r ih =>
    intro i k x h
    cases i with
    | zero =>
      simp only [enumL, List.getElem?_cons_zero, Option.some.injEq] at h
      exact ⟨a, rfl, h.symm⟩
    | succ i =>
      simp only [enumL, List.getElem?_cons_succ] at h
      obtain ⟨y, h1, h2⟩ := ih h
      exact ⟨y, by simpa using h1, by rw [h2]; congr 3; omega⟩
end Ps
end
end FL
end
section
set_option linter.all false
set_option maxRecDepth 100000
namespace FL
open PySem PySem.Spec PyProof.Rows L2
noncomputable section
def b_L_number_2 : FS :=
    (seqS (setS 1 (opF modV (opF mulV (varF 0) (cstF (.int 40014))) (cstF (.int 2147483563))))
    (seqS (ifS (isB (opF eqV (opF modV (varF 1) (cstF (.int 3))) (cstF (.int 0)))) (retS (opF subV (opF modV (opF mulV (varF 0) (opF addV (opF mulV (cstF (.int 7)) (opF powV (cstF (.int 10)) (cstF (.int 59)))) (cstF (.int 3)))) (opF subV (opF mulV (cstF (.int 2)) (opF powV (cstF (.int 10)) (cstF (.int 60)))) (cstF (.int 1)))) (opF subV (opF powV (cstF (.int 10)) (cstF (.int 60))) (cstF (.int 1))))) nxS)
    (retS (opF subV (opF modV (opF fdivV (varF 1) (cstF (.int 3))) (cstF (.int 7))) (cstF (.int 3))))))
def F_L_number_2 : Fn := runFn 2 b_L_number_2
end
end FL
end
section
set_option linter.all false
set_option maxRecDepth 100000
namespace FL
open PySem PySem.Spec PyProof.Rows L2
noncomputable section
def b_L_word_2 : FS :=
    (seqS (setS 2 (cstF (.str ("abcdefghijklmnopqrstuvwxyz" : Str))))
    (seqS (setS 3 (opF modV (opF mulV (varF 0) (cstF (.int 69621))) (cstF (.int 2147483587))))
    (seqS (setS 4 (opF addV (cstF (.int 1)) (opF modV (varF 3) (cstF (.int 8)))))
    (seqS (ifS (isB (opF eqV (opF modV (varF 1) (cstF (.int 2))) (cstF (.int 0)))) (setS 4 (opF addV (cstF (.int 1)) (opF modV (opF fdivV (varF 1) (cstF (.int 2))) (cstF (.int 8))))) nxS)
    (seqS (setS 5 (opF modV (opF fdivV (varF 3) (cstF (.int 8))) (varF 4)))
    (seqS (setS 6 (opF idxV (varF 2) (opF modV (opF fdivV (varF 1) (cstF (.int 16))) (cstF (.int 26)))))
    (retS (opF addV (opF addV (opF mulV (varF 6) (varF 5)) (opF idxV (varF 2) (opF modV (opF fdivV (varF 3) (cstF (.int 64))) (cstF (.int 26))))) (opF mulV (varF 6) (opF subV (opF subV (varF 4) (cstF (.int 1))) (varF 5)))))))))))
def F_L_word_2 : Fn := runFn 7 b_L_word_2
end
end FL
end
section
set_option linter.all false
set_option maxRecDepth 100000
namespace FL
open PySem PySem.Spec PyProof.Rows L2
noncomputable section
def b_L_knot_e1 : FE :=
    (opF modV (opF modV (opF mulV (varF 0) (varF 7)) (cstF (.int 2147483549))) (varF 1))
def b_L_knot : FS :=
    (seqS (setS 3 (opF modV (opF mulV (varF 0) (cstF (.int 16807))) (cstF (.int 2147483629))))
    (seqS (setS 4 (opF idxV (lstF (consA (cstF (.str ("plus" : Str))) (consA (cstF (.str ("times" : Str))) (consA (cstF (.str ("neg" : Str))) (consA (cstF (.str ("bind" : Str))) (consA (cstF (.str ("plus" : Str))) (consA (cstF (.str ("bind" : Str))) nilA))))))) (opF modV (varF 3) (cstF (.int 6)))))
    (seqS (setS 5 (opF subV (cstF (.int 2)) (cbF intV (consA (opF eqV (varF 4) (cstF (.str ("neg" : Str)))) nilA))))
    (seqS (ifS (isB (opF gtV (opF modV (opF fdivV (varF 3) (cstF (.int 6))) (cstF (.int 4))) (cstF (.int 1)))) (setS 5 (opF addV (cstF (.int 1)) (opF modV (opF fdivV (varF 3) (cstF (.int 24))) (cstF (.int 4))))) nxS)
    (seqS (ifS (isB (opF eqV (opF modV (opF fdivV (varF 3) (cstF (.int 6))) (cstF (.int 4))) (cstF (.int 2)))) (setS 4 (callF 2 F_L_word_2 [] (consA (opF modV (opF fdivV (varF 3) (cstF (.int 96))) (cstF (.int 3))) (consA (varF 2) nilA)))) nxS)
    (seqS (setS 6 (sliF (lstF (consA (cstF (.int 40692)) (consA (cstF (.int 39373)) (consA (cstF (.int 69069)) (consA (cstF (.int 30323)) nilA))))) noO (someO (varF 5))))
    (retS (tupF (consA (cstF (.str ("of" : Str))) (consA (varF 4) (consA (cbF tupleV (consA (lcF (seqI (varF 6)) [7] (nameG 7) yesT b_L_knot_e1) nilA)) nilA)))))))))))
def F_L_knot : Fn := runFn 8 b_L_knot
end
end FL
end
section
set_option linter.all false
set_option maxRecDepth 100000
namespace FL
open PySem PySem.Spec PyProof.Rows L2
noncomputable section
def b_L_term : FS :=
    (seqS (setS 3 (opF modV (opF mulV (varF 0) (cstF (.int 48271))) (cstF (.int 2147483647))))
    (seqS (ifS (isB (opF ltV (opF modV (varF 3) (cstF (.int 10))) (cstF (.int 2)))) (retS (tupF (consA (cstF (.str ("num" : Str))) (consA (callF 1 F_L_number_2 [] (consA (varF 0) nilA)) nilA)))) nxS)
    (seqS (ifS (orT (isB (opF ltV (opF modV (varF 3) (cstF (.int 10))) (cstF (.int 4)))) (isB (opF eqV (varF 1) (cstF (.int 0))))) (seqS (ifS (isB (opF eqV (opF modV (opF fdivV (varF 3) (cstF (.int 10))) (cstF (.int 5))) (cstF (.int 0)))) (retS (tupF (consA (cstF (.str ("name" : Str))) (consA (callF 2 F_L_word_2 [] (consA (opF modV (opF fdivV (varF 3) (cstF (.int 50))) (cstF (.int 3))) (consA (varF 2) nilA))) nilA)))) nxS)
    (seqS (ifS (isB (opF eqV (opF modV (opF fdivV (varF 3) (cstF (.int 10))) (cstF (.int 5))) (cstF (.int 1)))) (retS (tupF (consA (cstF (.str ("name" : Str))) (consA (opF idxV (lstF (consA (cstF (.str ("plus" : Str))) (consA (cstF (.str ("times" : Str))) (consA (cstF (.str ("neg" : Str))) (consA (cstF (.str ("bind" : Str))) nilA))))) (opF modV (opF fdivV (varF 3) (cstF (.int 50))) (cstF (.int 4)))) nilA)))) nxS)
    (retS (tupF (consA (cstF (.str ("name" : Str))) (consA (callF 2 F_L_word_2 [] (consA (varF 0) (consA (varF 2) nilA))) nilA)))))) nxS)
    (retS (callF 3 F_L_knot [] (consA (varF 0) (consA (varF 1) (consA (varF 2) nilA))))))))
def F_L_term : Fn := runFn 4 b_L_term
end
end FL
end
section
set_option linter.all false
set_option maxRecDepth 100000
namespace FL
open PySem PySem.Spec PyProof.Rows L2
noncomputable section
def b_L_made_s1 : FS :=
    (seqS (ifS (isB (opF ltV (cbF lenV (consA (varF 3) nilA)) (cstF (.int 24)))) (seqS (setS 7 (callF 3 F_L_term [] (consA (varF 5) (consA (cbF lenV (consA (varF 3) nilA)) (consA (varF 1) nilA)))))
    (ifS (isB (opF ninV (varF 7) (varF 3))) (dropS (bmF' "list" appendV (varF 3) (consA (varF 7) nilA))) nxS)) nxS)
    (seqS (setS 6 (opF modV (opF mulV (varF 5) (cstF (.int 45991))) (cstF (.int 2147483543))))
    (ifS (isB (opF eqV (opF modV (varF 6) (varF 2)) (cstF (.int 0)))) (seqS (setS 8 (opF modV (opF fdivV (varF 6) (cstF (.int 60))) (cbF lenV (consA (varF 3) nilA))))
    (seqS (setS 9 (opF modV (opF modV (opF mulV (varF 5) (cstF (.int 62089911))) (cstF (.int 4294967291))) (cbF lenV (consA (varF 3) nilA))))
    (dropS (bmF' "list" appendV (varF 4) (consA (tupF (consA (varF 8) (consA (varF 9) (consA (opF addV (cstF (.int 1)) (opF modV (varF 5) (opF powV (cstF (.int 10)) (cstF (.int 12))))) (consA (tupF (consA (cstF (.str ("told" : Str))) nilA)) nilA))))) nilA))))) nxS)))
def b_L_made : FS :=
    (seqS (setS 1 (cstF (.int 0)))
    (seqS (ifS (isB (opF gtV (cbF lenV (consA (varF 0) nilA)) (cstF (.int 0)))) (setS 1 (opF modV (opF idxV (varF 0) (cstF (.int 0))) (cstF (.int 10007)))) nxS)
    (seqS (setS 2 (opF idxV (lstF (consA (cstF (.int 3)) (consA (cstF (.int 7)) (consA (cstF (.int 20)) nilA)))) (opF modV (varF 1) (cstF (.int 3)))))
    (seqS (setS 3 (lstF nilA))
    (seqS (setS 4 (lstF nilA))
    (seqS (forS (seqI (sliF (varF 0) noO (someO (cstF (.int 90))))) (nameG 5) b_L_made_s1)
    (retS (tupF (consA (varF 3) (consA (varF 4) nilA))))))))))
def F_L_made : Fn := runFn 10 b_L_made
end
end FL
end
section
set_option linter.all false
set_option maxRecDepth 100000
namespace FL
open PySem PySem.Spec PyProof.Rows L2
noncomputable section
namespace Tm
/-! ## numbered terms, as laws k31 and later draw them -/
inductive Tm where
  | num (i : Int) | name (x : Str) | of (w : Str) (as : List Int)
def Tm.pv : Tm → PV
  | .num i => .tup [.str "num", .int i]
  | .name x => .tup [.str "name", .str x]
  | .of w as => .tup [.str "of", .str w, .tup (as.map PV.int)]
/-- a text of plain signs -/
abbrev Az (x : Str) : Prop := PyData.strOk x = true
def Tm.Good (n : Nat) : Tm → Prop
  | .num _ => True
  | .name x => Az x
  | .of w as => Az w ∧ as.length ≤ 4 ∧ ∀ a ∈ as, 0 ≤ a ∧ a < n
theorem Good.up {n m : Nat} (h : n ≤ m) : ∀ {t : Tm}, t.Good n → t.Good m
  | .num _, _ => trivial
  | .name _, q => q
  | .of _ _, ⟨a, b, c⟩ => ⟨a, b, fun z hz => ⟨(c z hz).1, by have := (c z hz).2; omega⟩⟩
theorem pv_pure (t : Tm) : pureP t.pv = true := by
  cases t with
  | num i => rfl
  | name x => rfl
  | of w as =>
    have : puresP (as.map PV.int) = true := pures_iff.mpr fun x hx => by
      obtain ⟨z, _, rfl⟩ := List.mem_map.mp hx
      rfl
    simp [Tm.pv, pureP, puresP, this]
def Bits (c : Int) : Prop := Builtin.Int.intBits c ≤ 1048576
theorem mb {c : Int} (h : Bits c) (j : Int) (hj : j.natAbs < 2 ^ 250) : mulOk c j = true := mulOk_b (a := 250) h hj (by decide)
theorem md (i n : Int) (h : 0 < n) : 0 ≤ i % n ∧ i % n < n := ⟨Int.emod_nonneg _ (by omega), Int.emod_lt_of_pos _ h⟩
theorem dv (i n : Int) (h : 0 ≤ i) (hn : 0 < n) : 0 ≤ i / n ∧ i / n ≤ i := ⟨Int.ediv_nonneg h (by omega), Int.ediv_le_self _ h⟩
theorem F_number {c : Int} {st : Store} (hc : Bits c) : ∃ i, F_L_number_2 [.int c] st = .ok (.int i) st := by
  have m1 := mb hc 40014 (by decide)
  have m2 := mb hc 700000000000000000000000000000000000000000000000000000000003 (by decide)
  have m3 : mulOk 7 100000000000000000000000000000000000000000000000000000000000 = true := by decide +kernel
  have m4 : mulOk 2 1000000000000000000000000000000000000000000000000000000000000 = true := by decide +kernel
  have c1 : ((0 : Int) ≤ 60 ∧ (60 : Int) ≤ 1000000 ∧ (10 : Int).natAbs < 2 ^ 64) := by decide
  have c2 : ((0 : Int) ≤ 59 ∧ (59 : Int) ≤ 1000000 ∧ (10 : Int).natAbs < 2 ^ 64) := by decide
  have c3 : (0 < (3 : Int) ∧ (3 : Int).natAbs.log2 < 9000) := by decide
  have h : ∃ i, b_L_number_2 [some (.int c), none] st = .rt (.int i) st := by
    by_cases e : c * 40014 % 2147483563 % 3 = 0
    · simp only [b_L_number_2, seqS, ifS, setS, augS, dropS, retS, retN, nxS, bkS, ctS, asgS, subS, R.toS, R.bind, R.of, opF, unF, varF, cstF, chF, isB, asB, andT, orT, notT, andF, orF, notF, ifF, nilA, consA, tupF, lstF, cbF, callF, bmF', truT, truV, nameG, nilG, consG, tupG, List.set_cons_zero, List.set_cons_succ, List.getElem?_cons_zero, List.getElem?_cons_succ, Option.bind_some, Option.bind_none, Option.map_some, Option.map_none, List.length_cons, List.length_nil, List.cons_append, List.nil_append, List.append_nil, if_true, if_false, ite_true, ite_false, Bool.false_eq_true, reduceIte, reduceCtorEq, List.map_cons, List.map_nil, Nat.sub_self, List.replicate_succ, List.replicate_zero, Nat.reduceSub, Nat.reduceAdd, Nat.reduceLT, Nat.reduceLeDiff, Nat.reduceEqDiff, Nat.reduceMul, Nat.reducePow, Int.reduceLT, Int.reduceLE, Int.reduceAdd, Int.reduceMul, Int.reduceSub, Int.reduceNeg, Int.reduceEq, Int.reducePow, Int.reduceMod, Int.reduceDiv, Int.reduceToNat, decide_true, decide_false, and_true, true_and, and_self, Option.some.injEq, addV, iaddV, subV, mulV, fdivV, modV, powV, negV, cmpV, isNonV, notNonV, eqV, neV, eqB, scEq, t1, t2, t3, t4, t5, t6, t7, t8, t9, t10, t11, t12, t13, t14, t15, t16, m1, m2, m3, m4, c1, c2, c3, e]
      exact ⟨_, rfl⟩
    · simp only [b_L_number_2, seqS, ifS, setS, augS, dropS, retS, retN, nxS, bkS, ctS, asgS, subS, R.toS, R.bind, R.of, opF, unF, varF, cstF, chF, isB, asB, andT, orT, notT, andF, orF, notF, ifF, nilA, consA, tupF, lstF, cbF, callF, bmF', truT, truV, nameG, nilG, consG, tupG, List.set_cons_zero, List.set_cons_succ, List.getElem?_cons_zero, List.getElem?_cons_succ, Option.bind_some, Option.bind_none, Option.map_some, Option.map_none, List.length_cons, List.length_nil, List.cons_append, List.nil_append, List.append_nil, if_true, if_false, ite_true, ite_false, Bool.false_eq_true, reduceIte, reduceCtorEq, List.map_cons, List.map_nil, Nat.sub_self, List.replicate_succ, List.replicate_zero, Nat.reduceSub, Nat.reduceAdd, Nat.reduceLT, Nat.reduceLeDiff, Nat.reduceEqDiff, Nat.reduceMul, Nat.reducePow, Int.reduceLT, Int.reduceLE, Int.reduceAdd, Int.reduceMul, Int.reduceSub, Int.reduceNeg, Int.reduceEq, Int.reducePow, Int.reduceMod, Int.reduceDiv, Int.reduceToNat, decide_true, decide_false, and_true, true_and, and_self, Option.some.injEq, addV, iaddV, subV, mulV, fdivV, modV, powV, negV, cmpV, isNonV, notNonV, eqV, neV, eqB, scEq, t1, t2, t3, t4, t5, t6, t7, t8, t9, t10, t11, t12, t13, t14, t15, t16, m1, m2, m3, m4, c1, c2, c3, e]
      exact ⟨_, rfl⟩
  obtain ⟨i, h⟩ := h
  exact ⟨i, run_rt0 h rfl⟩
theorem az_S {l : List Nat} (h : ∀ c ∈ l, c < 123) : Az (S l) := by
  unfold Az PyData.strOk
  rw [← Array.all_toList, S_cps, List.all_eq_true]
  intro x hx
  have := h x hx
  exact decide_eq_true (by omega)
theorem rep_one (n c : Nat) : (List.replicate n [c]).flatten = List.replicate n c := flat_one n c
theorem F_word {c h : Int} {st : Store} (hc : Bits c) (h0 : 0 ≤ h) : ∃ x, F_L_word_2 [.int c, .int h] st = .ok (.str x) st ∧ Az x := by
  have m1 := mb hc 69621 (by decide)
  obtain ⟨m, hm⟩ : ∃ m, m = c * 69621 % 2147483587 := ⟨_, rfl⟩
  have qm : 0 ≤ m ∧ m < 2147483587 := by rw [hm]; exact md _ _ (by decide)
  have z1 := md m 8 (by decide)
  have z2 := md (h / 2) 8 (by decide)
  have z3 := md (h / 16) 26 (by decide)
  have z4 := md (m / 64) 26 (by decide)
  have c8 : (0 < (8 : Int) ∧ (8 : Int).natAbs.log2 < 9000) := by decide
  have c2 : (0 < (2 : Int) ∧ (2 : Int).natAbs.log2 < 9000) := by decide
  have c16 : (0 < (16 : Int) ∧ (16 : Int).natAbs.log2 < 9000) := by decide
  have c64 : (0 < (64 : Int) ∧ (64 : Int).natAbs.log2 < 9000) := by decide
  have fin : ∀ n : Int, 1 ≤ n → n ≤ 8 → ∃ l : List Nat, (seqS (setS 5 (opF modV (opF fdivV (varF 3) (cstF (.int 8))) (varF 4)))
    (seqS (setS 6 (opF idxV (varF 2) (opF modV (opF fdivV (varF 1) (cstF (.int 16))) (cstF (.int 26)))))
    (retS (opF addV (opF addV (opF mulV (varF 6) (varF 5)) (opF idxV (varF 2) (opF modV (opF fdivV (varF 3) (cstF (.int 64))) (cstF (.int 26))))) (opF mulV (varF 6) (opF subV (opF subV (varF 4) (cstF (.int 1))) (varF 5)))))))
      [some (.int c), some (.int h), some (.str ("abcdefghijklmnopqrstuvwxyz" : Str)), some (.int m), some (.int n), none, none] st = .rt (.str (S l)) st ∧ ∀ c ∈ l, c < 123 := fun n n1 n8 => by
    have a := md (m / 8) n (by omega)
    have np : 0 < n := by omega
    have r1 : 0 ≤ m / 8 % n ∧ m / 8 % n ≤ 1000 ∧ (1 : Nat) ≤ 1000 := by omega
    have r2 : 0 ≤ n - 1 - m / 8 % n ∧ n - 1 - m / 8 % n ≤ 1000 ∧ (1 : Nat) ≤ 1000 := by omega
    refine ⟨List.replicate (m / 8 % n).toNat (97 + (h / 16 % 26).toNat) ++ [97 + (m / 64 % 26).toNat] ++ List.replicate (n - 1 - m / 8 % n).toNat (97 + (h / 16 % 26).toNat), ?_, fun x hx => ?_⟩
    · simp only [seqS, ifS, setS, augS, dropS, retS, retN, nxS, bkS, ctS, asgS, subS, R.toS, R.bind, R.of, opF, unF, varF, cstF, chF, isB, asB, andT, orT, notT, andF, orF, notF, ifF, nilA, consA, tupF, lstF, cbF, callF, bmF', truT, truV, nameG, nilG, consG, tupG, List.set_cons_zero, List.set_cons_succ, List.getElem?_cons_zero, List.getElem?_cons_succ, Option.bind_some, Option.bind_none, Option.map_some, Option.map_none, List.length_cons, List.length_nil, List.cons_append, List.nil_append, List.append_nil, if_true, if_false, ite_true, ite_false, Bool.false_eq_true, reduceIte, reduceCtorEq, List.map_cons, List.map_nil, Nat.sub_self, List.replicate_succ, List.replicate_zero, Nat.reduceSub, Nat.reduceAdd, Nat.reduceLT, Nat.reduceLeDiff, Nat.reduceEqDiff, Nat.reduceMul, Nat.reducePow, Int.reduceLT, Int.reduceLE, Int.reduceAdd, Int.reduceMul, Int.reduceSub, Int.reduceNeg, Int.reduceEq, Int.reducePow, Int.reduceMod, Int.reduceDiv, Int.reduceToNat, decide_true, decide_false, and_true, true_and, and_self, Option.some.injEq, addV, iaddV, subV, mulV, fdivV, modV, powV, negV, cmpV, isNonV, notNonV, idxV, at0, at1, at2, at3, at4, at5, seqAt, lstAt, lenV, isiV, typV, kb1, kb2, kb3, kb4, kb5, kb6, kb7, kb8, kb9, kb10, kb11, c8, c16, c64, np, letters_eq, S_cps, S_len, List.length_map, List.length_range, sizeLine_eq, letters_at z3.1 z3.2, letters_at z4.1 z4.2, S_one, r1, r2, S_mul _ _ a.1, S_mul _ _ r2.1, rep_one, List.length_replicate, S_app, List.length_append]
      rw [if_pos (by omega)]
      simp only [S_len, S_app, List.length_append, List.length_replicate, List.length_cons, List.length_nil]
      rw [if_pos (by omega)]
    · simp only [List.mem_append, List.mem_replicate, List.mem_singleton] at hx
      omega
  have key : ∃ l : List Nat, b_L_word_2 [some (.int c), some (.int h), none, none, none, none, none] st = .rt (.str (S l)) st ∧ ∀ c ∈ l, c < 123 := by
    unfold b_L_word_2
    by_cases e : h % 2 = 0
    · obtain ⟨l, f1, f2⟩ := fin (1 + h / 2 % 8) (by omega) (by omega)
      refine ⟨l, ?_, f2⟩
      refine (seqS_nx (e1 := [some (.int c), some (.int h), some (.str ("abcdefghijklmnopqrstuvwxyz" : Str)), none, none, none, none]) (s1 := st) rfl).trans ?_
      refine (seqS_nx (e1 := [some (.int c), some (.int h), some (.str ("abcdefghijklmnopqrstuvwxyz" : Str)), some (.int m), none, none, none]) (s1 := st) (by simp only [seqS, ifS, setS, augS, dropS, retS, retN, nxS, bkS, ctS, asgS, subS, R.toS, R.bind, R.of, opF, unF, varF, cstF, chF, isB, asB, andT, orT, notT, andF, orF, notF, ifF, nilA, consA, tupF, lstF, cbF, callF, bmF', truT, truV, nameG, nilG, consG, tupG, List.set_cons_zero, List.set_cons_succ, List.getElem?_cons_zero, List.getElem?_cons_succ, Option.bind_some, Option.bind_none, Option.map_some, Option.map_none, List.length_cons, List.length_nil, List.cons_append, List.nil_append, List.append_nil, if_true, if_false, ite_true, ite_false, Bool.false_eq_true, reduceIte, reduceCtorEq, List.map_cons, List.map_nil, Nat.sub_self, List.replicate_succ, List.replicate_zero, Nat.reduceSub, Nat.reduceAdd, Nat.reduceLT, Nat.reduceLeDiff, Nat.reduceEqDiff, Nat.reduceMul, Nat.reducePow, Int.reduceLT, Int.reduceLE, Int.reduceAdd, Int.reduceMul, Int.reduceSub, Int.reduceNeg, Int.reduceEq, Int.reducePow, Int.reduceMod, Int.reduceDiv, Int.reduceToNat, decide_true, decide_false, and_true, true_and, and_self, Option.some.injEq, addV, iaddV, subV, mulV, fdivV, modV, powV, negV, cmpV, isNonV, notNonV, m1, ← hm])).trans ?_
      refine (seqS_nx (e1 := [some (.int c), some (.int h), some (.str ("abcdefghijklmnopqrstuvwxyz" : Str)), some (.int m), some (.int (1 + m % 8)), none, none]) (s1 := st) (by simp only [seqS, ifS, setS, augS, dropS, retS, retN, nxS, bkS, ctS, asgS, subS, R.toS, R.bind, R.of, opF, unF, varF, cstF, chF, isB, asB, andT, orT, notT, andF, orF, notF, ifF, nilA, consA, tupF, lstF, cbF, callF, bmF', truT, truV, nameG, nilG, consG, tupG, List.set_cons_zero, List.set_cons_succ, List.getElem?_cons_zero, List.getElem?_cons_succ, Option.bind_some, Option.bind_none, Option.map_some, Option.map_none, List.length_cons, List.length_nil, List.cons_append, List.nil_append, List.append_nil, if_true, if_false, ite_true, ite_false, Bool.false_eq_true, reduceIte, reduceCtorEq, List.map_cons, List.map_nil, Nat.sub_self, List.replicate_succ, List.replicate_zero, Nat.reduceSub, Nat.reduceAdd, Nat.reduceLT, Nat.reduceLeDiff, Nat.reduceEqDiff, Nat.reduceMul, Nat.reducePow, Int.reduceLT, Int.reduceLE, Int.reduceAdd, Int.reduceMul, Int.reduceSub, Int.reduceNeg, Int.reduceEq, Int.reducePow, Int.reduceMod, Int.reduceDiv, Int.reduceToNat, decide_true, decide_false, and_true, true_and, and_self, Option.some.injEq, addV, iaddV, subV, mulV, fdivV, modV, powV, negV, cmpV, isNonV, notNonV])).trans ?_
      refine (seqS_nx (e1 := [some (.int c), some (.int h), some (.str ("abcdefghijklmnopqrstuvwxyz" : Str)), some (.int m), some (.int (1 + h / 2 % 8)), none, none]) (s1 := st) (by simp only [seqS, ifS, setS, augS, dropS, retS, retN, nxS, bkS, ctS, asgS, subS, R.toS, R.bind, R.of, opF, unF, varF, cstF, chF, isB, asB, andT, orT, notT, andF, orF, notF, ifF, nilA, consA, tupF, lstF, cbF, callF, bmF', truT, truV, nameG, nilG, consG, tupG, List.set_cons_zero, List.set_cons_succ, List.getElem?_cons_zero, List.getElem?_cons_succ, Option.bind_some, Option.bind_none, Option.map_some, Option.map_none, List.length_cons, List.length_nil, List.cons_append, List.nil_append, List.append_nil, if_true, if_false, ite_true, ite_false, Bool.false_eq_true, reduceIte, reduceCtorEq, List.map_cons, List.map_nil, Nat.sub_self, List.replicate_succ, List.replicate_zero, Nat.reduceSub, Nat.reduceAdd, Nat.reduceLT, Nat.reduceLeDiff, Nat.reduceEqDiff, Nat.reduceMul, Nat.reducePow, Int.reduceLT, Int.reduceLE, Int.reduceAdd, Int.reduceMul, Int.reduceSub, Int.reduceNeg, Int.reduceEq, Int.reducePow, Int.reduceMod, Int.reduceDiv, Int.reduceToNat, decide_true, decide_false, and_true, true_and, and_self, Option.some.injEq, addV, iaddV, subV, mulV, fdivV, modV, powV, negV, cmpV, isNonV, notNonV, eqV, neV, eqB, scEq, t1, t2, t3, t4, t5, t6, t7, t8, t9, t10, t11, t12, t13, t14, t15, t16, e, c2])).trans f1
    · obtain ⟨l, f1, f2⟩ := fin (1 + m % 8) (by omega) (by omega)
      refine ⟨l, ?_, f2⟩
      refine (seqS_nx (e1 := [some (.int c), some (.int h), some (.str ("abcdefghijklmnopqrstuvwxyz" : Str)), none, none, none, none]) (s1 := st) rfl).trans ?_
      refine (seqS_nx (e1 := [some (.int c), some (.int h), some (.str ("abcdefghijklmnopqrstuvwxyz" : Str)), some (.int m), none, none, none]) (s1 := st) (by simp only [seqS, ifS, setS, augS, dropS, retS, retN, nxS, bkS, ctS, asgS, subS, R.toS, R.bind, R.of, opF, unF, varF, cstF, chF, isB, asB, andT, orT, notT, andF, orF, notF, ifF, nilA, consA, tupF, lstF, cbF, callF, bmF', truT, truV, nameG, nilG, consG, tupG, List.set_cons_zero, List.set_cons_succ, List.getElem?_cons_zero, List.getElem?_cons_succ, Option.bind_some, Option.bind_none, Option.map_some, Option.map_none, List.length_cons, List.length_nil, List.cons_append, List.nil_append, List.append_nil, if_true, if_false, ite_true, ite_false, Bool.false_eq_true, reduceIte, reduceCtorEq, List.map_cons, List.map_nil, Nat.sub_self, List.replicate_succ, List.replicate_zero, Nat.reduceSub, Nat.reduceAdd, Nat.reduceLT, Nat.reduceLeDiff, Nat.reduceEqDiff, Nat.reduceMul, Nat.reducePow, Int.reduceLT, Int.reduceLE, Int.reduceAdd, Int.reduceMul, Int.reduceSub, Int.reduceNeg, Int.reduceEq, Int.reducePow, Int.reduceMod, Int.reduceDiv, Int.reduceToNat, decide_true, decide_false, and_true, true_and, and_self, Option.some.injEq, addV, iaddV, subV, mulV, fdivV, modV, powV, negV, cmpV, isNonV, notNonV, m1, ← hm])).trans ?_
      refine (seqS_nx (e1 := [some (.int c), some (.int h), some (.str ("abcdefghijklmnopqrstuvwxyz" : Str)), some (.int m), some (.int (1 + m % 8)), none, none]) (s1 := st) (by simp only [seqS, ifS, setS, augS, dropS, retS, retN, nxS, bkS, ctS, asgS, subS, R.toS, R.bind, R.of, opF, unF, varF, cstF, chF, isB, asB, andT, orT, notT, andF, orF, notF, ifF, nilA, consA, tupF, lstF, cbF, callF, bmF', truT, truV, nameG, nilG, consG, tupG, List.set_cons_zero, List.set_cons_succ, List.getElem?_cons_zero, List.getElem?_cons_succ, Option.bind_some, Option.bind_none, Option.map_some, Option.map_none, List.length_cons, List.length_nil, List.cons_append, List.nil_append, List.append_nil, if_true, if_false, ite_true, ite_false, Bool.false_eq_true, reduceIte, reduceCtorEq, List.map_cons, List.map_nil, Nat.sub_self, List.replicate_succ, List.replicate_zero, Nat.reduceSub, Nat.reduceAdd, Nat.reduceLT, Nat.reduceLeDiff, Nat.reduceEqDiff, Nat.reduceMul, Nat.reducePow, Int.reduceLT, Int.reduceLE, Int.reduceAdd, Int.reduceMul, Int.reduceSub, Int.reduceNeg, Int.reduceEq, Int.reducePow, Int.reduceMod, Int.reduceDiv, Int.reduceToNat, decide_true, decide_false, and_true, true_and, and_self, Option.some.injEq, addV, iaddV, subV, mulV, fdivV, modV, powV, negV, cmpV, isNonV, notNonV])).trans ?_
      refine (seqS_nx (e1 := [some (.int c), some (.int h), some (.str ("abcdefghijklmnopqrstuvwxyz" : Str)), some (.int m), some (.int (1 + m % 8)), none, none]) (s1 := st) (by simp only [seqS, ifS, setS, augS, dropS, retS, retN, nxS, bkS, ctS, asgS, subS, R.toS, R.bind, R.of, opF, unF, varF, cstF, chF, isB, asB, andT, orT, notT, andF, orF, notF, ifF, nilA, consA, tupF, lstF, cbF, callF, bmF', truT, truV, nameG, nilG, consG, tupG, List.set_cons_zero, List.set_cons_succ, List.getElem?_cons_zero, List.getElem?_cons_succ, Option.bind_some, Option.bind_none, Option.map_some, Option.map_none, List.length_cons, List.length_nil, List.cons_append, List.nil_append, List.append_nil, if_true, if_false, ite_true, ite_false, Bool.false_eq_true, reduceIte, reduceCtorEq, List.map_cons, List.map_nil, Nat.sub_self, List.replicate_succ, List.replicate_zero, Nat.reduceSub, Nat.reduceAdd, Nat.reduceLT, Nat.reduceLeDiff, Nat.reduceEqDiff, Nat.reduceMul, Nat.reducePow, Int.reduceLT, Int.reduceLE, Int.reduceAdd, Int.reduceMul, Int.reduceSub, Int.reduceNeg, Int.reduceEq, Int.reducePow, Int.reduceMod, Int.reduceDiv, Int.reduceToNat, decide_true, decide_false, and_true, true_and, and_self, Option.some.injEq, addV, iaddV, subV, mulV, fdivV, modV, powV, negV, cmpV, isNonV, notNonV, eqV, neV, eqB, scEq, t1, t2, t3, t4, t5, t6, t7, t8, t9, t10, t11, t12, t13, t14, t15, t16, e])).trans f1
  obtain ⟨l, f1, f2⟩ := key
  exact ⟨S l, run_rt0 f1 rfl, az_S f2⟩
theorem bits_small {c : Int} (h0 : 0 ≤ c) (h : c < 2 ^ 64) : Bits c := by
  have : c.natAbs < 2 ^ 64 := by omega
  have := PyProof.Rows.intBits_le this
  unfold Bits
  omega
theorem az_lit : Az "plus" ∧ Az "times" ∧ Az "neg" ∧ Az "bind" := ⟨by decide +kernel, by decide +kernel, by decide +kernel, by decide +kernel⟩
theorem six (m : Int) (h : 0 ≤ m ∧ m < 6) : ∃ w, Az w ∧ atI [PV.str "plus", .str "times", .str "neg", .str "bind", .str "plus", .str "bind"] m = some (.str w) := by
  obtain ⟨a1, a2, a3, a4⟩ := az_lit
  have : m = 0 ∨ m = 1 ∨ m = 2 ∨ m = 3 ∨ m = 4 ∨ m = 5 := by omega
  rcases this with e | e | e | e | e | e <;> subst e
  · exact ⟨_, a1, at0⟩
  · exact ⟨_, a2, at1⟩
  · exact ⟨_, a3, at2⟩
  · exact ⟨_, a4, at3⟩
  · exact ⟨_, a1, at4⟩
  · exact ⟨_, a4, at5⟩
theorem four (m : Int) (h : 0 ≤ m ∧ m < 4) : ∃ w, Az w ∧ atI [PV.str "plus", .str "times", .str "neg", .str "bind"] m = some (.str w) := by
  obtain ⟨a1, a2, a3, a4⟩ := az_lit
  have : m = 0 ∨ m = 1 ∨ m = 2 ∨ m = 3 := by omega
  rcases this with e | e | e | e <;> subst e
  · exact ⟨_, a1, at0⟩
  · exact ⟨_, a2, at1⟩
  · exact ⟨_, a3, at2⟩
  · exact ⟨_, a4, at3⟩
theorem ex_rt {f g : FS} {e e1 : Env} {s s1 : Store} {P : PV → Store → Prop} (h : f e s = .nx e1 s1) (k : ∃ v z, g e1 s1 = .rt v z ∧ P v z) : ∃ v z, seqS f g e s = .rt v z ∧ P v z := by
  obtain ⟨v, z, hz, p⟩ := k
  exact ⟨v, z, (seqS_nx h).trans hz, p⟩
/-- a good term comes out, with some garbage -/
def Out (n : Nat) (st : Store) : PV → Store → Prop := fun v z => ∃ t g, v = Tm.pv t ∧ t.Good n ∧ z = st ++ g
theorem out_run {n k : Nat} {body : FS} {args : List PV} {st : Store} (h : ∃ v z, body (args.map some ++ List.replicate (k - args.length) none) st = .rt v z ∧ Out n st v z) : ∃ t, runFn k body args st = .ok (Tm.pv t) st ∧ t.Good n := by
  obtain ⟨v, z, h, t, g, rfl, gd, rfl⟩ := h
  exact ⟨t, run_rt h (pv_pure t), gd⟩
theorem F_knot {c h : Int} {n : Nat} {st : Store} (hc : Bits c) (h0 : 0 ≤ h) (hn : 0 < n) : ∃ t, F_L_knot [.int c, .int (n : Int), .int h] st = .ok (Tm.pv t) st ∧ t.Good n := by
  have m1 := mb hc 16807 (by decide)
  obtain ⟨m, hm⟩ : ∃ m, m = c * 16807 % 2147483629 := ⟨_, rfl⟩
  have qm : 0 ≤ m ∧ m < 2147483629 := by rw [hm]; exact md _ _ (by decide)
  have c6 : (0 < (6 : Int) ∧ (6 : Int).natAbs.log2 < 9000) := by decide
  have c24 : (0 < (24 : Int) ∧ (24 : Int).natAbs.log2 < 9000) := by decide
  have c96 : (0 < (96 : Int) ∧ (96 : Int).natAbs.log2 < 9000) := by decide
  have z6 := md m 6 (by decide)
  have z24 := md (m / 24) 4 (by decide)
  have z96 := md (m / 96) 3 (by decide)
  have np : (0 : Int) < (n : Int) := by omega
  unfold F_L_knot
  apply out_run
  have fin : ∀ (w : Str) (k : Int) (g : Store), Az w → 1 ≤ k → k ≤ 4 → ∃ v z, (seqS (setS 6 (sliF (lstF (consA (cstF (.int 40692)) (consA (cstF (.int 39373)) (consA (cstF (.int 69069)) (consA (cstF (.int 30323)) nilA))))) noO (someO (varF 5))))
    (retS (tupF (consA (cstF (.str ("of" : Str))) (consA (varF 4) (consA (cbF tupleV (consA (lcF (seqI (varF 6)) [7] (nameG 7) yesT b_L_knot_e1) nilA)) nilA)))))) [some (.int c), some (.int (n : Int)), some (.int h), some (.int m), some (.str w), some (.int k), none, none] (st ++ g) = .rt v z ∧ Out n st v z := fun w k g hw k1 k4 => by
    obtain ⟨fl, hfl⟩ : ∃ fl : List Int, fl = [40692, 39373, 69069, 30323].take k.toNat := ⟨_, rfl⟩
    have cut : cutP [PV.int 40692, .int 39373, .int 69069, .int 30323] none (some k) = fl.map PV.int := by
      have : k = 1 ∨ k = 2 ∨ k = 3 ∨ k = 4 := by omega
      rcases this with e | e | e | e <;> subst e <;> rw [hfl] <;> rfl
    have fm : ∀ f ∈ fl, f.natAbs < 2 ^ 250 := fun f hf => by
      rw [hfl] at hf
      have := List.mem_of_mem_take hf
      simp only [List.mem_cons, List.not_mem_nil, or_false] at this
      rcases this with e | e | e | e <;> subst e <;> decide
    have ll : fl.length ≤ 4 := by rw [hfl, List.length_take]; simp only [List.length_cons, List.length_nil]; omega
    have lc := lcE (i := 6) (k := 7) (fe := b_L_knot_e1) (e := [some (.int c), some (.int (n : Int)), some (.int h), some (.int m), some (.str w), some (.int k), some (.ref (st ++ (g ++ [PO.lst [PV.int 40692, .int 39373, .int 69069, .int 30323]])).length), none]) (s := st ++ (g ++ [PO.lst [PV.int 40692, .int 39373, .int 69069, .int 30323], .lst (fl.map PV.int)]))
      (st ++ (g ++ [PO.lst [PV.int 40692, .int 39373, .int 69069, .int 30323]])).length fl PV.int (fun f => .int (c * f % 2147483549 % (n : Int))) rfl (by
        have : (st ++ (g ++ [PO.lst [PV.int 40692, .int 39373, .int 69069, .int 30323], .lst (fl.map PV.int)]) : Store) = (st ++ (g ++ [PO.lst [PV.int 40692, .int 39373, .int 69069, .int 30323]])) ++ [.lst (fl.map PV.int)] := by simp
        rw [this, getS0]; rfl) (by omega) fun f hf acc => by
        have mf := mb hc f (fm f hf)
        simp only [b_L_knot_e1, wipeE, seqS, ifS, setS, augS, dropS, retS, retN, nxS, bkS, ctS, asgS, subS, R.toS, R.bind, R.of, opF, unF, varF, cstF, chF, isB, asB, andT, orT, notT, andF, orF, notF, ifF, nilA, consA, tupF, lstF, cbF, callF, bmF', truT, truV, nameG, nilG, consG, tupG, List.set_cons_zero, List.set_cons_succ, List.getElem?_cons_zero, List.getElem?_cons_succ, Option.bind_some, Option.bind_none, Option.map_some, Option.map_none, List.length_cons, List.length_nil, List.cons_append, List.nil_append, List.append_nil, if_true, if_false, ite_true, ite_false, Bool.false_eq_true, reduceIte, reduceCtorEq, List.map_cons, List.map_nil, Nat.sub_self, List.replicate_succ, List.replicate_zero, Nat.reduceSub, Nat.reduceAdd, Nat.reduceLT, Nat.reduceLeDiff, Nat.reduceEqDiff, Nat.reduceMul, Nat.reducePow, Int.reduceLT, Int.reduceLE, Int.reduceAdd, Int.reduceMul, Int.reduceSub, Int.reduceNeg, Int.reduceEq, Int.reducePow, Int.reduceMod, Int.reduceDiv, Int.reduceToNat, decide_true, decide_false, and_true, true_and, and_self, Option.some.injEq, addV, iaddV, subV, mulV, fdivV, modV, powV, negV, cmpV, isNonV, notNonV, mf, np]
    refine ⟨(Tm.of w (fl.map fun f => c * f % 2147483549 % (n : Int))).pv, st ++ (g ++ [PO.lst [PV.int 40692, .int 39373, .int 69069, .int 30323], .lst (fl.map PV.int), .lst (fl.map fun f => .int (c * f % 2147483549 % (n : Int)))]), ?_, _, g ++ [PO.lst [PV.int 40692, .int 39373, .int 69069, .int 30323], .lst (fl.map PV.int), .lst (fl.map fun f => .int (c * f % 2147483549 % (n : Int)))], rfl, ⟨hw, by rw [List.length_map]; omega, fun a ha => ?_⟩, rfl⟩
    · have g0 : ∀ k, (st ++ (g ++ k))[(st ++ g).length]? = k[0]? := fun k => by rw [← appS]; exact getS0
      have g2 : ∀ a b k, (st ++ (g ++ a :: b :: k))[(st ++ (g ++ [a, b])).length]? = k[0]? := fun a b k => by
        have : (st ++ (g ++ a :: b :: k)) = (st ++ (g ++ [a, b])) ++ k := by simp
        rw [this]
        exact getS0
      simp only [seqS, ifS, setS, augS, dropS, retS, retN, nxS, bkS, ctS, asgS, subS, R.toS, R.bind, R.of, opF, unF, varF, cstF, chF, isB, asB, andT, orT, notT, andF, orF, notF, ifF, nilA, consA, tupF, lstF, cbF, callF, bmF', truT, truV, nameG, nilG, consG, tupG, List.set_cons_zero, List.set_cons_succ, List.getElem?_cons_zero, List.getElem?_cons_succ, Option.bind_some, Option.bind_none, Option.map_some, Option.map_none, List.length_cons, List.length_nil, List.cons_append, List.nil_append, List.append_nil, if_true, if_false, ite_true, ite_false, Bool.false_eq_true, reduceIte, reduceCtorEq, List.map_cons, List.map_nil, Nat.sub_self, List.replicate_succ, List.replicate_zero, Nat.reduceSub, Nat.reduceAdd, Nat.reduceLT, Nat.reduceLeDiff, Nat.reduceEqDiff, Nat.reduceMul, Nat.reducePow, Int.reduceLT, Int.reduceLE, Int.reduceAdd, Int.reduceMul, Int.reduceSub, Int.reduceNeg, Int.reduceEq, Int.reducePow, Int.reduceMod, Int.reduceDiv, Int.reduceToNat, decide_true, decide_false, and_true, true_and, and_self, Option.some.injEq, sliF, noO, someO, asI, slV, idxV, at0, at1, at2, at3, at4, at5, seqAt, lstAt, lenV, isiV, typV, kb1, kb2, kb3, kb4, kb5, kb6, kb7, kb8, kb9, kb10, kb11, sizeLine_eq, appS, g0, cut, lc, tupleV, g2]
      simp only [Tm.pv, List.map_map]
      rfl
    · obtain ⟨f, _, rfl⟩ := List.mem_map.mp ha
      exact md _ _ np
  obtain ⟨w0, a0, hw0⟩ := six (m % 6) z6
  obtain ⟨x, hx, ax⟩ := F_word (c := m / 96 % 3) (h := h) (st := st ++ [PO.lst [PV.str "plus", .str "times", .str "neg", .str "bind", .str "plus", .str "bind"]]) (bits_small (by omega) (by omega)) h0
  unfold b_L_knot
  refine ex_rt (e1 := [some (.int c), some (.int (n : Int)), some (.int h), some (.int m), none, none, none, none]) (s1 := st) (by simp only [seqS, ifS, setS, augS, dropS, retS, retN, nxS, bkS, ctS, asgS, subS, R.toS, R.bind, R.of, opF, unF, varF, cstF, chF, isB, asB, andT, orT, notT, andF, orF, notF, ifF, nilA, consA, tupF, lstF, cbF, callF, bmF', truT, truV, nameG, nilG, consG, tupG, List.set_cons_zero, List.set_cons_succ, List.getElem?_cons_zero, List.getElem?_cons_succ, Option.bind_some, Option.bind_none, Option.map_some, Option.map_none, List.length_cons, List.length_nil, List.cons_append, List.nil_append, List.append_nil, if_true, if_false, ite_true, ite_false, Bool.false_eq_true, reduceIte, reduceCtorEq, List.map_cons, List.map_nil, Nat.sub_self, List.replicate_succ, List.replicate_zero, Nat.reduceSub, Nat.reduceAdd, Nat.reduceLT, Nat.reduceLeDiff, Nat.reduceEqDiff, Nat.reduceMul, Nat.reducePow, Int.reduceLT, Int.reduceLE, Int.reduceAdd, Int.reduceMul, Int.reduceSub, Int.reduceNeg, Int.reduceEq, Int.reducePow, Int.reduceMod, Int.reduceDiv, Int.reduceToNat, decide_true, decide_false, and_true, true_and, and_self, Option.some.injEq, addV, iaddV, subV, mulV, fdivV, modV, powV, negV, cmpV, isNonV, notNonV, m1, ← hm]) ?_
  refine ex_rt (e1 := [some (.int c), some (.int (n : Int)), some (.int h), some (.int m), some (.str w0), none, none, none]) (s1 := st ++ [PO.lst [PV.str "plus", .str "times", .str "neg", .str "bind", .str "plus", .str "bind"]]) ?_ ?_
  · have hw0' := hw0
    simp only [seqS, ifS, setS, augS, dropS, retS, retN, nxS, bkS, ctS, asgS, subS, R.toS, R.bind, R.of, opF, unF, varF, cstF, chF, isB, asB, andT, orT, notT, andF, orF, notF, ifF, nilA, consA, tupF, lstF, cbF, callF, bmF', truT, truV, nameG, nilG, consG, tupG, List.set_cons_zero, List.set_cons_succ, List.getElem?_cons_zero, List.getElem?_cons_succ, Option.bind_some, Option.bind_none, Option.map_some, Option.map_none, List.length_cons, List.length_nil, List.cons_append, List.nil_append, List.append_nil, if_true, if_false, ite_true, ite_false, Bool.false_eq_true, reduceIte, reduceCtorEq, List.map_cons, List.map_nil, Nat.sub_self, List.replicate_succ, List.replicate_zero, Nat.reduceSub, Nat.reduceAdd, Nat.reduceLT, Nat.reduceLeDiff, Nat.reduceEqDiff, Nat.reduceMul, Nat.reducePow, Int.reduceLT, Int.reduceLE, Int.reduceAdd, Int.reduceMul, Int.reduceSub, Int.reduceNeg, Int.reduceEq, Int.reducePow, Int.reduceMod, Int.reduceDiv, Int.reduceToNat, decide_true, decide_false, and_true, true_and, and_self, Option.some.injEq, addV, iaddV, subV, mulV, fdivV, modV, powV, negV, cmpV, isNonV, notNonV, idxV, at0, at1, at2, at3, at4, at5, seqAt, lstAt, lenV, isiV, typV, kb1, kb2, kb3, kb4, kb5, kb6, kb7, kb8, kb9, kb10, kb11, sizeLine_eq, getS0, hw0]
  generalize ([PO.lst [PV.str "plus", .str "times", .str "neg", .str "bind", .str "plus", .str "bind"]] : Store) = g at hx ⊢
  have two : ∀ (k : Int), 1 ≤ k → k ≤ 4 → ∃ v z, (seqS (ifS (isB (opF eqV (opF modV (opF fdivV (varF 3) (cstF (.int 6))) (cstF (.int 4))) (cstF (.int 2)))) (setS 4 (callF 2 F_L_word_2 [] (consA (opF modV (opF fdivV (varF 3) (cstF (.int 96))) (cstF (.int 3))) (consA (varF 2) nilA)))) nxS)
    (seqS (setS 6 (sliF (lstF (consA (cstF (.int 40692)) (consA (cstF (.int 39373)) (consA (cstF (.int 69069)) (consA (cstF (.int 30323)) nilA))))) noO (someO (varF 5))))
    (retS (tupF (consA (cstF (.str ("of" : Str))) (consA (varF 4) (consA (cbF tupleV (consA (lcF (seqI (varF 6)) [7] (nameG 7) yesT b_L_knot_e1) nilA)) nilA))))))) [some (.int c), some (.int (n : Int)), some (.int h), some (.int m), some (.str w0), some (.int k), none, none] (st ++ g) = .rt v z ∧ Out n st v z := fun k k1 k4 => by
    by_cases e : m / 6 % 4 = 2
    · refine ex_rt (e1 := [some (.int c), some (.int (n : Int)), some (.int h), some (.int m), some (.str x), some (.int k), none, none]) (s1 := st ++ g) ?_ (fin x k g ax k1 k4)
      simp only [seqS, ifS, setS, augS, dropS, retS, retN, nxS, bkS, ctS, asgS, subS, R.toS, R.bind, R.of, opF, unF, varF, cstF, chF, isB, asB, andT, orT, notT, andF, orF, notF, ifF, nilA, consA, tupF, lstF, cbF, callF, bmF', truT, truV, nameG, nilG, consG, tupG, List.set_cons_zero, List.set_cons_succ, List.getElem?_cons_zero, List.getElem?_cons_succ, Option.bind_some, Option.bind_none, Option.map_some, Option.map_none, List.length_cons, List.length_nil, List.cons_append, List.nil_append, List.append_nil, if_true, if_false, ite_true, ite_false, Bool.false_eq_true, reduceIte, reduceCtorEq, List.map_cons, List.map_nil, Nat.sub_self, List.replicate_succ, List.replicate_zero, Nat.reduceSub, Nat.reduceAdd, Nat.reduceLT, Nat.reduceLeDiff, Nat.reduceEqDiff, Nat.reduceMul, Nat.reducePow, Int.reduceLT, Int.reduceLE, Int.reduceAdd, Int.reduceMul, Int.reduceSub, Int.reduceNeg, Int.reduceEq, Int.reducePow, Int.reduceMod, Int.reduceDiv, Int.reduceToNat, decide_true, decide_false, and_true, true_and, and_self, Option.some.injEq, addV, iaddV, subV, mulV, fdivV, modV, powV, negV, cmpV, isNonV, notNonV, eqV, neV, eqB, scEq, t1, t2, t3, t4, t5, t6, t7, t8, t9, t10, t11, t12, t13, t14, t15, t16, c6, c96, e, hx]
    · refine ex_rt (e1 := [some (.int c), some (.int (n : Int)), some (.int h), some (.int m), some (.str w0), some (.int k), none, none]) (s1 := st ++ g) ?_ (fin w0 k g a0 k1 k4)
      simp only [seqS, ifS, setS, augS, dropS, retS, retN, nxS, bkS, ctS, asgS, subS, R.toS, R.bind, R.of, opF, unF, varF, cstF, chF, isB, asB, andT, orT, notT, andF, orF, notF, ifF, nilA, consA, tupF, lstF, cbF, callF, bmF', truT, truV, nameG, nilG, consG, tupG, List.set_cons_zero, List.set_cons_succ, List.getElem?_cons_zero, List.getElem?_cons_succ, Option.bind_some, Option.bind_none, Option.map_some, Option.map_none, List.length_cons, List.length_nil, List.cons_append, List.nil_append, List.append_nil, if_true, if_false, ite_true, ite_false, Bool.false_eq_true, reduceIte, reduceCtorEq, List.map_cons, List.map_nil, Nat.sub_self, List.replicate_succ, List.replicate_zero, Nat.reduceSub, Nat.reduceAdd, Nat.reduceLT, Nat.reduceLeDiff, Nat.reduceEqDiff, Nat.reduceMul, Nat.reducePow, Int.reduceLT, Int.reduceLE, Int.reduceAdd, Int.reduceMul, Int.reduceSub, Int.reduceNeg, Int.reduceEq, Int.reducePow, Int.reduceMod, Int.reduceDiv, Int.reduceToNat, decide_true, decide_false, and_true, true_and, and_self, Option.some.injEq, addV, iaddV, subV, mulV, fdivV, modV, powV, negV, cmpV, isNonV, notNonV, eqV, neV, eqB, scEq, t1, t2, t3, t4, t5, t6, t7, t8, t9, t10, t11, t12, t13, t14, t15, t16, c6, e]
  obtain ⟨k0, hk0, k1, k2⟩ : ∃ k0, k0 = 2 - (if decide (w0 = "neg") = true then 1 else 0 : Int) ∧ 1 ≤ k0 ∧ k0 ≤ 2 := ⟨_, rfl, by split <;> omega, by split <;> omega⟩
  refine ex_rt (e1 := [some (.int c), some (.int (n : Int)), some (.int h), some (.int m), some (.str w0), some (.int k0), none, none]) (s1 := st ++ g) ?_ ?_
  · rw [hk0]
    by_cases e : w0 = "neg"
    · simp only [seqS, ifS, setS, augS, dropS, retS, retN, nxS, bkS, ctS, asgS, subS, R.toS, R.bind, R.of, opF, unF, varF, cstF, chF, isB, asB, andT, orT, notT, andF, orF, notF, ifF, nilA, consA, tupF, lstF, cbF, callF, bmF', truT, truV, nameG, nilG, consG, tupG, List.set_cons_zero, List.set_cons_succ, List.getElem?_cons_zero, List.getElem?_cons_succ, Option.bind_some, Option.bind_none, Option.map_some, Option.map_none, List.length_cons, List.length_nil, List.cons_append, List.nil_append, List.append_nil, if_true, if_false, ite_true, ite_false, Bool.false_eq_true, reduceIte, reduceCtorEq, List.map_cons, List.map_nil, Nat.sub_self, List.replicate_succ, List.replicate_zero, Nat.reduceSub, Nat.reduceAdd, Nat.reduceLT, Nat.reduceLeDiff, Nat.reduceEqDiff, Nat.reduceMul, Nat.reducePow, Int.reduceLT, Int.reduceLE, Int.reduceAdd, Int.reduceMul, Int.reduceSub, Int.reduceNeg, Int.reduceEq, Int.reducePow, Int.reduceMod, Int.reduceDiv, Int.reduceToNat, decide_true, decide_false, and_true, true_and, and_self, Option.some.injEq, addV, iaddV, subV, mulV, fdivV, modV, powV, negV, cmpV, isNonV, notNonV, eqV, eqB, scEq, intV, e]
    · simp only [seqS, ifS, setS, augS, dropS, retS, retN, nxS, bkS, ctS, asgS, subS, R.toS, R.bind, R.of, opF, unF, varF, cstF, chF, isB, asB, andT, orT, notT, andF, orF, notF, ifF, nilA, consA, tupF, lstF, cbF, callF, bmF', truT, truV, nameG, nilG, consG, tupG, List.set_cons_zero, List.set_cons_succ, List.getElem?_cons_zero, List.getElem?_cons_succ, Option.bind_some, Option.bind_none, Option.map_some, Option.map_none, List.length_cons, List.length_nil, List.cons_append, List.nil_append, List.append_nil, if_true, if_false, ite_true, ite_false, Bool.false_eq_true, reduceIte, reduceCtorEq, List.map_cons, List.map_nil, Nat.sub_self, List.replicate_succ, List.replicate_zero, Nat.reduceSub, Nat.reduceAdd, Nat.reduceLT, Nat.reduceLeDiff, Nat.reduceEqDiff, Nat.reduceMul, Nat.reducePow, Int.reduceLT, Int.reduceLE, Int.reduceAdd, Int.reduceMul, Int.reduceSub, Int.reduceNeg, Int.reduceEq, Int.reducePow, Int.reduceMod, Int.reduceDiv, Int.reduceToNat, decide_true, decide_false, and_true, true_and, and_self, Option.some.injEq, addV, iaddV, subV, mulV, fdivV, modV, powV, negV, cmpV, isNonV, notNonV, eqV, eqB, scEq, intV, e]
  by_cases e : 1 < m / 6 % 4
  · refine ex_rt (e1 := [some (.int c), some (.int (n : Int)), some (.int h), some (.int m), some (.str w0), some (.int (1 + m / 24 % 4)), none, none]) (s1 := st ++ g) ?_ (two _ (by omega) (by omega))
    simp only [seqS, ifS, setS, augS, dropS, retS, retN, nxS, bkS, ctS, asgS, subS, R.toS, R.bind, R.of, opF, unF, varF, cstF, chF, isB, asB, andT, orT, notT, andF, orF, notF, ifF, nilA, consA, tupF, lstF, cbF, callF, bmF', truT, truV, nameG, nilG, consG, tupG, List.set_cons_zero, List.set_cons_succ, List.getElem?_cons_zero, List.getElem?_cons_succ, Option.bind_some, Option.bind_none, Option.map_some, Option.map_none, List.length_cons, List.length_nil, List.cons_append, List.nil_append, List.append_nil, if_true, if_false, ite_true, ite_false, Bool.false_eq_true, reduceIte, reduceCtorEq, List.map_cons, List.map_nil, Nat.sub_self, List.replicate_succ, List.replicate_zero, Nat.reduceSub, Nat.reduceAdd, Nat.reduceLT, Nat.reduceLeDiff, Nat.reduceEqDiff, Nat.reduceMul, Nat.reducePow, Int.reduceLT, Int.reduceLE, Int.reduceAdd, Int.reduceMul, Int.reduceSub, Int.reduceNeg, Int.reduceEq, Int.reducePow, Int.reduceMod, Int.reduceDiv, Int.reduceToNat, decide_true, decide_false, and_true, true_and, and_self, Option.some.injEq, addV, iaddV, subV, mulV, fdivV, modV, powV, negV, cmpV, isNonV, notNonV, c6, c24, e]
  · refine ex_rt (e1 := [some (.int c), some (.int (n : Int)), some (.int h), some (.int m), some (.str w0), some (.int k0), none, none]) (s1 := st ++ g) ?_ (two _ (by omega) (by omega))
    simp only [seqS, ifS, setS, augS, dropS, retS, retN, nxS, bkS, ctS, asgS, subS, R.toS, R.bind, R.of, opF, unF, varF, cstF, chF, isB, asB, andT, orT, notT, andF, orF, notF, ifF, nilA, consA, tupF, lstF, cbF, callF, bmF', truT, truV, nameG, nilG, consG, tupG, List.set_cons_zero, List.set_cons_succ, List.getElem?_cons_zero, List.getElem?_cons_succ, Option.bind_some, Option.bind_none, Option.map_some, Option.map_none, List.length_cons, List.length_nil, List.cons_append, List.nil_append, List.append_nil, if_true, if_false, ite_true, ite_false, Bool.false_eq_true, reduceIte, reduceCtorEq, List.map_cons, List.map_nil, Nat.sub_self, List.replicate_succ, List.replicate_zero, Nat.reduceSub, Nat.reduceAdd, Nat.reduceLT, Nat.reduceLeDiff, Nat.reduceEqDiff, Nat.reduceMul, Nat.reducePow, Int.reduceLT, Int.reduceLE, Int.reduceAdd, Int.reduceMul, Int.reduceSub, Int.reduceNeg, Int.reduceEq, Int.reducePow, Int.reduceMod, Int.reduceDiv, Int.reduceToNat, decide_true, decide_false, and_true, true_and, and_self, Option.some.injEq, addV, iaddV, subV, mulV, fdivV, modV, powV, negV, cmpV, isNonV, notNonV, c6, e]
theorem F_term {c h : Int} {n : Nat} {st : Store} (hc : Bits c) (h0 : 0 ≤ h) : ∃ t, F_L_term [.int c, .int (n : Int), .int h] st = .ok (Tm.pv t) st ∧ t.Good n := by
  have m1 := mb hc 48271 (by decide)
  obtain ⟨m, hm⟩ : ∃ m, m = c * 48271 % 2147483647 := ⟨_, rfl⟩
  have qm : 0 ≤ m ∧ m < 2147483647 := by rw [hm]; exact md _ _ (by decide)
  have c10 : (0 < (10 : Int) ∧ (10 : Int).natAbs.log2 < 9000) := by decide
  have c50 : (0 < (50 : Int) ∧ (50 : Int).natAbs.log2 < 9000) := by decide
  have z3 := md (m / 50) 3 (by decide)
  have z4 := md (m / 50) 4 (by decide)
  obtain ⟨i, hi⟩ := F_number (st := st) hc
  obtain ⟨x1, hx1, ax1⟩ := F_word (c := m / 50 % 3) (h := h) (st := st) (bits_small (by omega) (by omega)) h0
  obtain ⟨x2, hx2, ax2⟩ := F_word (c := c) (h := h) (st := st) hc h0
  obtain ⟨w, aw, hw⟩ := four (m / 50 % 4) z4
  unfold F_L_term
  apply out_run
  unfold b_L_term
  refine ex_rt (e1 := [some (.int c), some (.int (n : Int)), some (.int h), some (.int m)]) (s1 := st) (by simp only [seqS, ifS, setS, augS, dropS, retS, retN, nxS, bkS, ctS, asgS, subS, R.toS, R.bind, R.of, opF, unF, varF, cstF, chF, isB, asB, andT, orT, notT, andF, orF, notF, ifF, nilA, consA, tupF, lstF, cbF, callF, bmF', truT, truV, nameG, nilG, consG, tupG, List.set_cons_zero, List.set_cons_succ, List.getElem?_cons_zero, List.getElem?_cons_succ, Option.bind_some, Option.bind_none, Option.map_some, Option.map_none, List.length_cons, List.length_nil, List.cons_append, List.nil_append, List.append_nil, if_true, if_false, ite_true, ite_false, Bool.false_eq_true, reduceIte, reduceCtorEq, List.map_cons, List.map_nil, Nat.sub_self, List.replicate_succ, List.replicate_zero, Nat.reduceSub, Nat.reduceAdd, Nat.reduceLT, Nat.reduceLeDiff, Nat.reduceEqDiff, Nat.reduceMul, Nat.reducePow, Int.reduceLT, Int.reduceLE, Int.reduceAdd, Int.reduceMul, Int.reduceSub, Int.reduceNeg, Int.reduceEq, Int.reducePow, Int.reduceMod, Int.reduceDiv, Int.reduceToNat, decide_true, decide_false, and_true, true_and, and_self, Option.some.injEq, addV, iaddV, subV, mulV, fdivV, modV, powV, negV, cmpV, isNonV, notNonV, m1, ← hm]) ?_
  by_cases e1 : m % 10 < 2
  · refine ⟨(Tm.num i).pv, st, ?_, _, [], rfl, trivial, (List.append_nil _).symm⟩
    refine seqS_rt ?_
    simp only [seqS, ifS, setS, augS, dropS, retS, retN, nxS, bkS, ctS, asgS, subS, R.toS, R.bind, R.of, opF, unF, varF, cstF, chF, isB, asB, andT, orT, notT, andF, orF, notF, ifF, nilA, consA, tupF, lstF, cbF, callF, bmF', truT, truV, nameG, nilG, consG, tupG, List.set_cons_zero, List.set_cons_succ, List.getElem?_cons_zero, List.getElem?_cons_succ, Option.bind_some, Option.bind_none, Option.map_some, Option.map_none, List.length_cons, List.length_nil, List.cons_append, List.nil_append, List.append_nil, if_true, if_false, ite_true, ite_false, Bool.false_eq_true, reduceIte, reduceCtorEq, List.map_cons, List.map_nil, Nat.sub_self, List.replicate_succ, List.replicate_zero, Nat.reduceSub, Nat.reduceAdd, Nat.reduceLT, Nat.reduceLeDiff, Nat.reduceEqDiff, Nat.reduceMul, Nat.reducePow, Int.reduceLT, Int.reduceLE, Int.reduceAdd, Int.reduceMul, Int.reduceSub, Int.reduceNeg, Int.reduceEq, Int.reducePow, Int.reduceMod, Int.reduceDiv, Int.reduceToNat, decide_true, decide_false, and_true, true_and, and_self, Option.some.injEq, addV, iaddV, subV, mulV, fdivV, modV, powV, negV, cmpV, isNonV, notNonV, eqV, neV, eqB, scEq, t1, t2, t3, t4, t5, t6, t7, t8, t9, t10, t11, t12, t13, t14, t15, t16, e1, hi, sizeLine_eq, Tm.pv]
  refine ex_rt (e1 := [some (.int c), some (.int (n : Int)), some (.int h), some (.int m)]) (s1 := st) (by simp only [seqS, ifS, setS, augS, dropS, retS, retN, nxS, bkS, ctS, asgS, subS, R.toS, R.bind, R.of, opF, unF, varF, cstF, chF, isB, asB, andT, orT, notT, andF, orF, notF, ifF, nilA, consA, tupF, lstF, cbF, callF, bmF', truT, truV, nameG, nilG, consG, tupG, List.set_cons_zero, List.set_cons_succ, List.getElem?_cons_zero, List.getElem?_cons_succ, Option.bind_some, Option.bind_none, Option.map_some, Option.map_none, List.length_cons, List.length_nil, List.cons_append, List.nil_append, List.append_nil, if_true, if_false, ite_true, ite_false, Bool.false_eq_true, reduceIte, reduceCtorEq, List.map_cons, List.map_nil, Nat.sub_self, List.replicate_succ, List.replicate_zero, Nat.reduceSub, Nat.reduceAdd, Nat.reduceLT, Nat.reduceLeDiff, Nat.reduceEqDiff, Nat.reduceMul, Nat.reducePow, Int.reduceLT, Int.reduceLE, Int.reduceAdd, Int.reduceMul, Int.reduceSub, Int.reduceNeg, Int.reduceEq, Int.reducePow, Int.reduceMod, Int.reduceDiv, Int.reduceToNat, decide_true, decide_false, and_true, true_and, and_self, Option.some.injEq, addV, iaddV, subV, mulV, fdivV, modV, powV, negV, cmpV, isNonV, notNonV, e1]) ?_
  by_cases e2 : m % 10 < 4 ∨ (n : Int) = 0
  · have br : ∀ (v : PV) (z : Store), (seqS (ifS (isB (opF eqV (opF modV (opF fdivV (varF 3) (cstF (.int 10))) (cstF (.int 5))) (cstF (.int 0)))) (retS (tupF (consA (cstF (.str ("name" : Str))) (consA (callF 2 F_L_word_2 [] (consA (opF modV (opF fdivV (varF 3) (cstF (.int 50))) (cstF (.int 3))) (consA (varF 2) nilA))) nilA)))) nxS)
    (seqS (ifS (isB (opF eqV (opF modV (opF fdivV (varF 3) (cstF (.int 10))) (cstF (.int 5))) (cstF (.int 1)))) (retS (tupF (consA (cstF (.str ("name" : Str))) (consA (opF idxV (lstF (consA (cstF (.str ("plus" : Str))) (consA (cstF (.str ("times" : Str))) (consA (cstF (.str ("neg" : Str))) (consA (cstF (.str ("bind" : Str))) nilA))))) (opF modV (opF fdivV (varF 3) (cstF (.int 50))) (cstF (.int 4)))) nilA)))) nxS)
    (retS (tupF (consA (cstF (.str ("name" : Str))) (consA (callF 2 F_L_word_2 [] (consA (varF 0) (consA (varF 2) nilA))) nilA)))))) [some (.int c), some (.int (n : Int)), some (.int h), some (.int m)] st = .rt v z → ∀ q : FS, seqS (ifS (orT (isB (opF ltV (opF modV (varF 3) (cstF (.int 10))) (cstF (.int 4)))) (isB (opF eqV (varF 1) (cstF (.int 0))))) (seqS (ifS (isB (opF eqV (opF modV (opF fdivV (varF 3) (cstF (.int 10))) (cstF (.int 5))) (cstF (.int 0)))) (retS (tupF (consA (cstF (.str ("name" : Str))) (consA (callF 2 F_L_word_2 [] (consA (opF modV (opF fdivV (varF 3) (cstF (.int 50))) (cstF (.int 3))) (consA (varF 2) nilA))) nilA)))) nxS)
    (seqS (ifS (isB (opF eqV (opF modV (opF fdivV (varF 3) (cstF (.int 10))) (cstF (.int 5))) (cstF (.int 1)))) (retS (tupF (consA (cstF (.str ("name" : Str))) (consA (opF idxV (lstF (consA (cstF (.str ("plus" : Str))) (consA (cstF (.str ("times" : Str))) (consA (cstF (.str ("neg" : Str))) (consA (cstF (.str ("bind" : Str))) nilA))))) (opF modV (opF fdivV (varF 3) (cstF (.int 50))) (cstF (.int 4)))) nilA)))) nxS)
    (retS (tupF (consA (cstF (.str ("name" : Str))) (consA (callF 2 F_L_word_2 [] (consA (varF 0) (consA (varF 2) nilA))) nilA)))))) nxS) q [some (.int c), some (.int (n : Int)), some (.int h), some (.int m)] st = .rt v z := fun v z hv q => by
      refine seqS_rt ?_
      refine (ifS_t (s1 := st) ?_).trans hv
      by_cases e4 : m % 10 < 4
      · simp only [seqS, ifS, setS, augS, dropS, retS, retN, nxS, bkS, ctS, asgS, subS, R.toS, R.bind, R.of, opF, unF, varF, cstF, chF, isB, asB, andT, orT, notT, andF, orF, notF, ifF, nilA, consA, tupF, lstF, cbF, callF, bmF', truT, truV, nameG, nilG, consG, tupG, List.set_cons_zero, List.set_cons_succ, List.getElem?_cons_zero, List.getElem?_cons_succ, Option.bind_some, Option.bind_none, Option.map_some, Option.map_none, List.length_cons, List.length_nil, List.cons_append, List.nil_append, List.append_nil, if_true, if_false, ite_true, ite_false, Bool.false_eq_true, reduceIte, reduceCtorEq, List.map_cons, List.map_nil, Nat.sub_self, List.replicate_succ, List.replicate_zero, Nat.reduceSub, Nat.reduceAdd, Nat.reduceLT, Nat.reduceLeDiff, Nat.reduceEqDiff, Nat.reduceMul, Nat.reducePow, Int.reduceLT, Int.reduceLE, Int.reduceAdd, Int.reduceMul, Int.reduceSub, Int.reduceNeg, Int.reduceEq, Int.reducePow, Int.reduceMod, Int.reduceDiv, Int.reduceToNat, decide_true, decide_false, and_true, true_and, and_self, Option.some.injEq, addV, iaddV, subV, mulV, fdivV, modV, powV, negV, cmpV, isNonV, notNonV, eqV, neV, eqB, scEq, t1, t2, t3, t4, t5, t6, t7, t8, t9, t10, t11, t12, t13, t14, t15, t16, e4]
      · have e5 := e2.resolve_left e4
        simp only [seqS, ifS, setS, augS, dropS, retS, retN, nxS, bkS, ctS, asgS, subS, R.toS, R.bind, R.of, opF, unF, varF, cstF, chF, isB, asB, andT, orT, notT, andF, orF, notF, ifF, nilA, consA, tupF, lstF, cbF, callF, bmF', truT, truV, nameG, nilG, consG, tupG, List.set_cons_zero, List.set_cons_succ, List.getElem?_cons_zero, List.getElem?_cons_succ, Option.bind_some, Option.bind_none, Option.map_some, Option.map_none, List.length_cons, List.length_nil, List.cons_append, List.nil_append, List.append_nil, if_true, if_false, ite_true, ite_false, Bool.false_eq_true, reduceIte, reduceCtorEq, List.map_cons, List.map_nil, Nat.sub_self, List.replicate_succ, List.replicate_zero, Nat.reduceSub, Nat.reduceAdd, Nat.reduceLT, Nat.reduceLeDiff, Nat.reduceEqDiff, Nat.reduceMul, Nat.reducePow, Int.reduceLT, Int.reduceLE, Int.reduceAdd, Int.reduceMul, Int.reduceSub, Int.reduceNeg, Int.reduceEq, Int.reducePow, Int.reduceMod, Int.reduceDiv, Int.reduceToNat, decide_true, decide_false, and_true, true_and, and_self, Option.some.injEq, addV, iaddV, subV, mulV, fdivV, modV, powV, negV, cmpV, isNonV, notNonV, eqV, neV, eqB, scEq, t1, t2, t3, t4, t5, t6, t7, t8, t9, t10, t11, t12, t13, t14, t15, t16, e4, e5]
    by_cases e3 : m / 10 % 5 = 0
    · exact ⟨(Tm.name x1).pv, st, br _ _ (by simp only [seqS, ifS, setS, augS, dropS, retS, retN, nxS, bkS, ctS, asgS, subS, R.toS, R.bind, R.of, opF, unF, varF, cstF, chF, isB, asB, andT, orT, notT, andF, orF, notF, ifF, nilA, consA, tupF, lstF, cbF, callF, bmF', truT, truV, nameG, nilG, consG, tupG, List.set_cons_zero, List.set_cons_succ, List.getElem?_cons_zero, List.getElem?_cons_succ, Option.bind_some, Option.bind_none, Option.map_some, Option.map_none, List.length_cons, List.length_nil, List.cons_append, List.nil_append, List.append_nil, if_true, if_false, ite_true, ite_false, Bool.false_eq_true, reduceIte, reduceCtorEq, List.map_cons, List.map_nil, Nat.sub_self, List.replicate_succ, List.replicate_zero, Nat.reduceSub, Nat.reduceAdd, Nat.reduceLT, Nat.reduceLeDiff, Nat.reduceEqDiff, Nat.reduceMul, Nat.reducePow, Int.reduceLT, Int.reduceLE, Int.reduceAdd, Int.reduceMul, Int.reduceSub, Int.reduceNeg, Int.reduceEq, Int.reducePow, Int.reduceMod, Int.reduceDiv, Int.reduceToNat, decide_true, decide_false, and_true, true_and, and_self, Option.some.injEq, addV, iaddV, subV, mulV, fdivV, modV, powV, negV, cmpV, isNonV, notNonV, eqV, neV, eqB, scEq, t1, t2, t3, t4, t5, t6, t7, t8, t9, t10, t11, t12, t13, t14, t15, t16, e3, c10, c50, hx1, sizeLine_eq, Tm.pv]) _, _, [], rfl, ax1, (List.append_nil _).symm⟩
    by_cases e4 : m / 10 % 5 = 1
    · exact ⟨(Tm.name w).pv, st ++ [PO.lst [PV.str "plus", .str "times", .str "neg", .str "bind"]], br _ _ (by simp only [seqS, ifS, setS, augS, dropS, retS, retN, nxS, bkS, ctS, asgS, subS, R.toS, R.bind, R.of, opF, unF, varF, cstF, chF, isB, asB, andT, orT, notT, andF, orF, notF, ifF, nilA, consA, tupF, lstF, cbF, callF, bmF', truT, truV, nameG, nilG, consG, tupG, List.set_cons_zero, List.set_cons_succ, List.getElem?_cons_zero, List.getElem?_cons_succ, Option.bind_some, Option.bind_none, Option.map_some, Option.map_none, List.length_cons, List.length_nil, List.cons_append, List.nil_append, List.append_nil, if_true, if_false, ite_true, ite_false, Bool.false_eq_true, reduceIte, reduceCtorEq, List.map_cons, List.map_nil, Nat.sub_self, List.replicate_succ, List.replicate_zero, Nat.reduceSub, Nat.reduceAdd, Nat.reduceLT, Nat.reduceLeDiff, Nat.reduceEqDiff, Nat.reduceMul, Nat.reducePow, Int.reduceLT, Int.reduceLE, Int.reduceAdd, Int.reduceMul, Int.reduceSub, Int.reduceNeg, Int.reduceEq, Int.reducePow, Int.reduceMod, Int.reduceDiv, Int.reduceToNat, decide_true, decide_false, and_true, true_and, and_self, Option.some.injEq, addV, iaddV, subV, mulV, fdivV, modV, powV, negV, cmpV, isNonV, notNonV, eqV, neV, eqB, scEq, t1, t2, t3, t4, t5, t6, t7, t8, t9, t10, t11, t12, t13, t14, t15, t16, idxV, at0, at1, at2, at3, at4, at5, seqAt, lstAt, lenV, isiV, typV, kb1, kb2, kb3, kb4, kb5, kb6, kb7, kb8, kb9, kb10, kb11, e3, e4, c10, c50, hw, getS0, sizeLine_eq, Tm.pv]) _, _, _, rfl, aw, rfl⟩
    · exact ⟨(Tm.name x2).pv, st, br _ _ (by simp only [seqS, ifS, setS, augS, dropS, retS, retN, nxS, bkS, ctS, asgS, subS, R.toS, R.bind, R.of, opF, unF, varF, cstF, chF, isB, asB, andT, orT, notT, andF, orF, notF, ifF, nilA, consA, tupF, lstF, cbF, callF, bmF', truT, truV, nameG, nilG, consG, tupG, List.set_cons_zero, List.set_cons_succ, List.getElem?_cons_zero, List.getElem?_cons_succ, Option.bind_some, Option.bind_none, Option.map_some, Option.map_none, List.length_cons, List.length_nil, List.cons_append, List.nil_append, List.append_nil, if_true, if_false, ite_true, ite_false, Bool.false_eq_true, reduceIte, reduceCtorEq, List.map_cons, List.map_nil, Nat.sub_self, List.replicate_succ, List.replicate_zero, Nat.reduceSub, Nat.reduceAdd, Nat.reduceLT, Nat.reduceLeDiff, Nat.reduceEqDiff, Nat.reduceMul, Nat.reducePow, Int.reduceLT, Int.reduceLE, Int.reduceAdd, Int.reduceMul, Int.reduceSub, Int.reduceNeg, Int.reduceEq, Int.reducePow, Int.reduceMod, Int.reduceDiv, Int.reduceToNat, decide_true, decide_false, and_true, true_and, and_self, Option.some.injEq, addV, iaddV, subV, mulV, fdivV, modV, powV, negV, cmpV, isNonV, notNonV, eqV, neV, eqB, scEq, t1, t2, t3, t4, t5, t6, t7, t8, t9, t10, t11, t12, t13, t14, t15, t16, e3, e4, c10, c50, hx2, sizeLine_eq, Tm.pv]) _, _, [], rfl, ax2, (List.append_nil _).symm⟩
  · have e4 : ¬ m % 10 < 4 := fun z => e2 (.inl z)
    have e5 : ¬ (n : Int) = 0 := fun z => e2 (.inr z)
    obtain ⟨t, ht, gt⟩ := F_knot (n := n) (st := st) hc h0 (by omega)
    refine ⟨Tm.pv t, st, ?_, t, [], rfl, gt, (List.append_nil _).symm⟩
    refine (seqS_nx (e1 := [some (.int c), some (.int (n : Int)), some (.int h), some (.int m)]) (s1 := st) (by simp only [seqS, ifS, setS, augS, dropS, retS, retN, nxS, bkS, ctS, asgS, subS, R.toS, R.bind, R.of, opF, unF, varF, cstF, chF, isB, asB, andT, orT, notT, andF, orF, notF, ifF, nilA, consA, tupF, lstF, cbF, callF, bmF', truT, truV, nameG, nilG, consG, tupG, List.set_cons_zero, List.set_cons_succ, List.getElem?_cons_zero, List.getElem?_cons_succ, Option.bind_some, Option.bind_none, Option.map_some, Option.map_none, List.length_cons, List.length_nil, List.cons_append, List.nil_append, List.append_nil, if_true, if_false, ite_true, ite_false, Bool.false_eq_true, reduceIte, reduceCtorEq, List.map_cons, List.map_nil, Nat.sub_self, List.replicate_succ, List.replicate_zero, Nat.reduceSub, Nat.reduceAdd, Nat.reduceLT, Nat.reduceLeDiff, Nat.reduceEqDiff, Nat.reduceMul, Nat.reducePow, Int.reduceLT, Int.reduceLE, Int.reduceAdd, Int.reduceMul, Int.reduceSub, Int.reduceNeg, Int.reduceEq, Int.reducePow, Int.reduceMod, Int.reduceDiv, Int.reduceToNat, decide_true, decide_false, and_true, true_and, and_self, Option.some.injEq, addV, iaddV, subV, mulV, fdivV, modV, powV, negV, cmpV, isNonV, notNonV, eqV, neV, eqB, scEq, t1, t2, t3, t4, t5, t6, t7, t8, t9, t10, t11, t12, t13, t14, t15, t16, e4, e5])).trans ?_
    simp only [seqS, ifS, setS, augS, dropS, retS, retN, nxS, bkS, ctS, asgS, subS, R.toS, R.bind, R.of, opF, unF, varF, cstF, chF, isB, asB, andT, orT, notT, andF, orF, notF, ifF, nilA, consA, tupF, lstF, cbF, callF, bmF', truT, truV, nameG, nilG, consG, tupG, List.set_cons_zero, List.set_cons_succ, List.getElem?_cons_zero, List.getElem?_cons_succ, Option.bind_some, Option.bind_none, Option.map_some, Option.map_none, List.length_cons, List.length_nil, List.cons_append, List.nil_append, List.append_nil, if_true, if_false, ite_true, ite_false, Bool.false_eq_true, reduceIte, reduceCtorEq, List.map_cons, List.map_nil, Nat.sub_self, List.replicate_succ, List.replicate_zero, Nat.reduceSub, Nat.reduceAdd, Nat.reduceLT, Nat.reduceLeDiff, Nat.reduceEqDiff, Nat.reduceMul, Nat.reducePow, Int.reduceLT, Int.reduceLE, Int.reduceAdd, Int.reduceMul, Int.reduceSub, Int.reduceNeg, Int.reduceEq, Int.reducePow, Int.reduceMod, Int.reduceDiv, Int.reduceToNat, decide_true, decide_false, and_true, true_and, and_self, Option.some.injEq, ht]
theorem run_keep' {n : Nat} {body : FS} {args : List PV} {st s' : Store} {xs : List PV} (h : body (args.map some ++ List.replicate (n - args.length) none) st = .rt (.tup xs) s') (p : refsOks st.length xs = false) : runFn n body args st = .ok (.tup xs) s' := by
  unfold runFn
  rw [h]
  show gc st (.tup xs) s' = _
  unfold gc
  split
  · rw [if_neg (by simp only [refsOk, p]; decide)]
  · rfl
/-! ### the terms of a script -/
theorem toDs_map {α : Type} {f : PV → Option PyData} {g : α → PV} : ∀ {xs : List α}, (∀ x ∈ xs, ∃ d, f (g x) = some d) → ∃ ds, toDs f (xs.map g) = some ds
  | [], _ => ⟨[], rfl⟩
  | x :: r, h => by
    obtain ⟨d, hd⟩ := h x List.mem_cons_self
    obtain ⟨ds, hds⟩ := toDs_map (xs := r) fun y hy => h y (List.mem_cons_of_mem _ hy)
    exact ⟨d :: ds, by rw [List.map_cons]; simp only [toDs, hd, hds]⟩
theorem tag_ok : PyData.strOk "num" = true ∧ PyData.strOk "name" = true ∧ PyData.strOk "of" = true := ⟨by decide +kernel, by decide +kernel, by decide +kernel⟩
theorem toD_str {k : Nat} {s : Store} {x : Str} (h : PyData.strOk x = true) : toD (k + 1) s (.str x) = some (.str x) := by simp only [toD, h, if_true]
theorem toD_pv {k n : Nat} {s : Store} : ∀ {t : Tm}, t.Good n → ∃ d, toD (k + 3) s t.pv = some d
  | .num i, _ => ⟨.tuple [.str "num", .int i], by
    show (toDs (toD (k + 2) s) [.str "num", .int i]).map PyData.tuple = _
    simp only [toDs, toD_str tag_ok.1]
    rfl⟩
  | .name x, h => ⟨.tuple [.str "name", .str x], by
    show (toDs (toD (k + 2) s) [.str "name", .str x]).map PyData.tuple = _
    simp only [toDs, toD_str tag_ok.2.1, toD_str (show PyData.strOk x = true from h)]
    rfl⟩
  | .of w as, ⟨hw, _, _⟩ => by
    obtain ⟨ds, hds⟩ := toDs_map (f := toD (k + 1) s) (g := PV.int) (xs := as) fun x _ => ⟨_, rfl⟩
    have e1 : toD (k + 2) s (.tup (as.map PV.int)) = some (.tuple ds) := by
      show (toDs (toD (k + 1) s) (as.map PV.int)).map PyData.tuple = _
      rw [hds]
      rfl
    refine ⟨.tuple [.str "of", .str w, .tuple ds], ?_⟩
    show (toDs (toD (k + 2) s) [.str "of", .str w, .tup (as.map PV.int)]).map PyData.tuple = _
    simp only [toDs, toD_str tag_ok.2.2, toD_str hw, e1]
    rfl
theorem in_terms {ts : List Tm} {t : Tm} {n r : Nat} {s : Store} (h : s[r]? = some (.lst (ts.map Tm.pv))) (ht : t.Good n) (hts : ∀ u ∈ ts, u.Good n) : ∃ b, inB t.pv (.ref r) s = some b ∧ (ts = [] → b = false) := by
  obtain ⟨d, hd⟩ := toD_pv (k := 61) (s := s) ht
  obtain ⟨ds, hds⟩ := toDs_map (f := toD 63 s) (g := Tm.pv) (xs := ts) fun u hu => toD_pv (k := 60) (hts u hu)
  have fl : flatP t.pv = false := by cases t <;> rfl
  refine ⟨ds.any fun z => PyData.eqv z d, ?_, fun e => ?_⟩
  · simp only [inB, seqAt, lstAt, h, fl, Bool.false_eq_true, false_and, if_false, hd, hds]
  · subst e
    simp only [List.map_nil, toDs, Option.some.injEq] at hds
    subst hds
    rfl
def L0 : PO := .lst [.int 3, .int 7, .int 20]
theorem F_made {ns : List Int} {st : Store} (hb : ∀ z ∈ ns, Bits z) : ∃ ts g, F_L_made [.frz (ns.map PV.int)] st = .ok (.tup [.ref (st.length + 1), .ref (st.length + 2)]) (st ++ g) ∧ (st ++ g)[st.length + 1]? = some (.lst (ts.map Tm.pv)) ∧
    (∀ t ∈ ts, t.Good ts.length) ∧ ts.length ≤ 24 ∧ (ns = [] → ts = []) := by
  have cut : cutP (ns.map PV.int) none (some 90) = (ns.take 90).map PV.int := by
    unfold cutP
    rw [sIx_some (by decide), HT.sIx_none, List.map_take, List.drop_zero, Nat.sub_zero]
    show List.take (min 90 _) _ = List.take 90 _
    rcases Nat.le_total 90 (ns.map PV.int).length with q | q
    · rw [Nat.min_eq_left q]
    · rw [Nat.min_eq_right q, List.take_of_length_le (Nat.le_refl _), List.take_of_length_le q]
  obtain ⟨hd, hhd, hd0, hd1⟩ : ∃ h, h = (if 0 < ns.length then ns.getD 0 0 % 10007 else 0) ∧ 0 ≤ h ∧ h < 10007 := ⟨_, rfl, by split; exact (md _ _ (by decide)).1; omega, by split; exact (md _ _ (by decide)).2; omega⟩
  have z3 := md hd 3 (by decide)
  obtain ⟨rate, hr, rp⟩ : ∃ r : Int, atI [PV.int 3, .int 7, .int 20] (hd % 3) = some (.int r) ∧ 0 < r := by
    have : hd % 3 = 0 ∨ hd % 3 = 1 ∨ hd % 3 = 2 := by omega
    rcases this with e | e | e <;> rw [e]
    · exact ⟨_, at0, by decide⟩
    · exact ⟨_, at1, by decide⟩
    · exact ⟨_, at2, by decide⟩
  have c60 : (0 < (60 : Int) ∧ (60 : Int).natAbs.log2 < 9000) := by decide
  have c12 : ((0 : Int) ≤ 12 ∧ (12 : Int) ≤ 1000000 ∧ (10 : Int).natAbs < 2 ^ 64) := by decide
  obtain ⟨e', st', h1, h2⟩ := forL_inv (gd := [(st.length + 3, .lst ((ns.take 90).map PV.int))]) (g := nameG 5) (b := b_L_made_s1) (xs := (ns.take 90).map PV.int)
    (fun i e s => ∃ (ts : List Tm) (es : List PV) (o5 o6 o7 o8 o9 : Option PV), s = st ++ [L0, .lst (ts.map Tm.pv), .lst es, .lst ((ns.take 90).map PV.int)] ∧ e = [some (.frz (ns.map PV.int)), some (.int hd), some (.int rate), some (.ref (st.length + 1)), some (.ref (st.length + 2)), o5, o6, o7, o8, o9] ∧
      (∀ t ∈ ts, t.Good ts.length) ∧ ts.length ≤ 24 ∧ es.length ≤ i ∧ (i = 0 → ts = []))
    (e := [some (.frz (ns.map PV.int)), some (.int hd), some (.int rate), some (.ref (st.length + 1)), some (.ref (st.length + 2)), none, none, none, none, none]) (st := st ++ [L0, .lst [], .lst [], .lst ((ns.take 90).map PV.int)])
    ⟨[], [], none, none, none, none, none, rfl, rfl, (fun _ h => by cases h), Nat.zero_le _, Nat.le_refl _, fun _ => rfl⟩
    (fun i x e s hx hP => by
      obtain ⟨ts, es, o5, o6, o7, o8, o9, rfl, rfl, hG, hl, he, h0⟩ := hP
      rw [List.getElem?_map] at hx
      obtain ⟨c, hc, rfl⟩ := Option.map_eq_some_iff.mp hx
      have cm := List.mem_of_getElem? hc
      have cB : Bits c := hb c (List.mem_of_mem_take cm)
      have il : i < 90 := by have := (List.getElem?_eq_some_iff.mp hc).1; rw [List.length_take] at this; omega
      refine ⟨gd_one (by rw [getS]; rfl), _, rfl, ?_⟩
      have g1 : ∀ a b c d : PO, (st ++ [a, b, c, d])[st.length + 1]? = some b := fun a b c d => by rw [getS]; rfl
      have g2 : ∀ a b c d : PO, (st ++ [a, b, c, d])[st.length + 2]? = some c := fun a b c d => by rw [getS]; rfl
      have s1 : ∀ a b c d o : PO, (st ++ [a, b, c, d]).set (st.length + 1) o = st ++ [a, o, c, d] := fun a b c d o => by rw [setS_app]; rfl
      have s2 : ∀ a b c d o : PO, (st ++ [a, b, c, d]).set (st.length + 2) o = st ++ [a, b, o, d] := fun a b c d o => by rw [setS_app]; rfl
      have m1 := mb cB 45991 (by decide)
      have m2 := mb cB 62089911 (by decide)
      show ∃ e2 s2, b_L_made_s1 [some (.frz (ns.map PV.int)), some (.int hd), some (.int rate), some (.ref (st.length + 1)), some (.ref (st.length + 2)), some (.int c), o6, o7, o8, o9] (st ++ [L0, .lst (ts.map Tm.pv), .lst es, .lst ((ns.take 90).map PV.int)]) = .nx e2 s2 ∧ _
      -- the term
      have A : ∃ (ts' : List Tm) (p7 : Option PV), (ifS (isB (opF ltV (cbF lenV (consA (varF 3) nilA)) (cstF (.int 24)))) (seqS (setS 7 (callF 3 F_L_term [] (consA (varF 5) (consA (cbF lenV (consA (varF 3) nilA)) (consA (varF 1) nilA)))))
    (ifS (isB (opF ninV (varF 7) (varF 3))) (dropS (bmF' "list" appendV (varF 3) (consA (varF 7) nilA))) nxS)) nxS) [some (.frz (ns.map PV.int)), some (.int hd), some (.int rate), some (.ref (st.length + 1)), some (.ref (st.length + 2)), some (.int c), o6, o7, o8, o9] (st ++ [L0, .lst (ts.map Tm.pv), .lst es, .lst ((ns.take 90).map PV.int)]) =
          .nx [some (.frz (ns.map PV.int)), some (.int hd), some (.int rate), some (.ref (st.length + 1)), some (.ref (st.length + 2)), some (.int c), o6, p7, o8, o9] (st ++ [L0, .lst (ts'.map Tm.pv), .lst es, .lst ((ns.take 90).map PV.int)]) ∧ (∀ t ∈ ts', t.Good ts'.length) ∧ ts'.length ≤ 24 ∧ ts' ≠ [] := by
        by_cases l24 : (ts.length : Int) < 24
        · obtain ⟨t, ht, tG⟩ := F_term (n := ts.length) (st := st ++ [L0, .lst (ts.map Tm.pv), .lst es, .lst ((ns.take 90).map PV.int)]) cB hd0
          obtain ⟨b, hb', b0⟩ := in_terms (s := st ++ [L0, .lst (ts.map Tm.pv), .lst es, .lst ((ns.take 90).map PV.int)]) (g1 _ _ _ _) tG hG
          cases b with
          | true =>
            refine ⟨ts, some t.pv, ?_, hG, hl, fun z => by cases b0 z⟩
            simp only [seqS, ifS, setS, augS, dropS, retS, retN, nxS, bkS, ctS, asgS, subS, R.toS, R.bind, R.of, opF, unF, varF, cstF, chF, isB, asB, andT, orT, notT, andF, orF, notF, ifF, nilA, consA, tupF, lstF, cbF, callF, bmF', truT, truV, nameG, nilG, consG, tupG, List.set_cons_zero, List.set_cons_succ, List.getElem?_cons_zero, List.getElem?_cons_succ, Option.bind_some, Option.bind_none, Option.map_some, Option.map_none, List.length_cons, List.length_nil, List.cons_append, List.nil_append, List.append_nil, if_true, if_false, ite_true, ite_false, Bool.false_eq_true, reduceIte, reduceCtorEq, List.map_cons, List.map_nil, Nat.sub_self, List.replicate_succ, List.replicate_zero, Nat.reduceSub, Nat.reduceAdd, Nat.reduceLT, Nat.reduceLeDiff, Nat.reduceEqDiff, Nat.reduceMul, Nat.reducePow, Int.reduceLT, Int.reduceLE, Int.reduceAdd, Int.reduceMul, Int.reduceSub, Int.reduceNeg, Int.reduceEq, Int.reducePow, Int.reduceMod, Int.reduceDiv, Int.reduceToNat, decide_true, decide_false, and_true, true_and, and_self, Option.some.injEq, idxV, at0, at1, at2, at3, at4, at5, seqAt, lstAt, lenV, isiV, typV, kb1, kb2, kb3, kb4, kb5, kb6, kb7, kb8, kb9, kb10, kb11, addV, iaddV, subV, mulV, fdivV, modV, powV, negV, cmpV, isNonV, notNonV, g1, List.length_map, l24, ht, ninV, hb', Bool.not_true]
          | false =>
            refine ⟨ts ++ [t], some t.pv, ?_, fun u hu => ?_, by rw [List.length_append, List.length_singleton]; omega, by simp⟩
            · have q : ts.length < 16777216 := by omega
              simp only [seqS, ifS, setS, augS, dropS, retS, retN, nxS, bkS, ctS, asgS, subS, R.toS, R.bind, R.of, opF, unF, varF, cstF, chF, isB, asB, andT, orT, notT, andF, orF, notF, ifF, nilA, consA, tupF, lstF, cbF, callF, bmF', truT, truV, nameG, nilG, consG, tupG, List.set_cons_zero, List.set_cons_succ, List.getElem?_cons_zero, List.getElem?_cons_succ, Option.bind_some, Option.bind_none, Option.map_some, Option.map_none, List.length_cons, List.length_nil, List.cons_append, List.nil_append, List.append_nil, if_true, if_false, ite_true, ite_false, Bool.false_eq_true, reduceIte, reduceCtorEq, List.map_cons, List.map_nil, Nat.sub_self, List.replicate_succ, List.replicate_zero, Nat.reduceSub, Nat.reduceAdd, Nat.reduceLT, Nat.reduceLeDiff, Nat.reduceEqDiff, Nat.reduceMul, Nat.reducePow, Int.reduceLT, Int.reduceLE, Int.reduceAdd, Int.reduceMul, Int.reduceSub, Int.reduceNeg, Int.reduceEq, Int.reducePow, Int.reduceMod, Int.reduceDiv, Int.reduceToNat, decide_true, decide_false, and_true, true_and, and_self, Option.some.injEq, idxV, at0, at1, at2, at3, at4, at5, seqAt, lstAt, lenV, isiV, typV, kb1, kb2, kb3, kb4, kb5, kb6, kb7, kb8, kb9, kb10, kb11, addV, iaddV, subV, mulV, fdivV, modV, powV, negV, cmpV, isNonV, notNonV, g1, List.length_map, l24, ht, ninV, hb', Bool.not_false, tyOk, beq_self_eq_true, appendV, sizeLine_eq, q, s1, List.map_append]
            · rw [List.length_append, List.length_singleton]
              rcases List.mem_append.mp hu with w | w
              · exact Good.up (by omega) (hG u w)
              · rw [List.mem_singleton] at w
                subst w
                exact Good.up (by omega) tG
        · refine ⟨ts, o7, ?_, hG, hl, fun z => by subst z; simp at l24⟩
          simp only [seqS, ifS, setS, augS, dropS, retS, retN, nxS, bkS, ctS, asgS, subS, R.toS, R.bind, R.of, opF, unF, varF, cstF, chF, isB, asB, andT, orT, notT, andF, orF, notF, ifF, nilA, consA, tupF, lstF, cbF, callF, bmF', truT, truV, nameG, nilG, consG, tupG, List.set_cons_zero, List.set_cons_succ, List.getElem?_cons_zero, List.getElem?_cons_succ, Option.bind_some, Option.bind_none, Option.map_some, Option.map_none, List.length_cons, List.length_nil, List.cons_append, List.nil_append, List.append_nil, if_true, if_false, ite_true, ite_false, Bool.false_eq_true, reduceIte, reduceCtorEq, List.map_cons, List.map_nil, Nat.sub_self, List.replicate_succ, List.replicate_zero, Nat.reduceSub, Nat.reduceAdd, Nat.reduceLT, Nat.reduceLeDiff, Nat.reduceEqDiff, Nat.reduceMul, Nat.reducePow, Int.reduceLT, Int.reduceLE, Int.reduceAdd, Int.reduceMul, Int.reduceSub, Int.reduceNeg, Int.reduceEq, Int.reducePow, Int.reduceMod, Int.reduceDiv, Int.reduceToNat, decide_true, decide_false, and_true, true_and, and_self, Option.some.injEq, idxV, at0, at1, at2, at3, at4, at5, seqAt, lstAt, lenV, isiV, typV, kb1, kb2, kb3, kb4, kb5, kb6, kb7, kb8, kb9, kb10, kb11, addV, iaddV, subV, mulV, fdivV, modV, powV, negV, cmpV, isNonV, notNonV, g1, List.length_map, l24]
      obtain ⟨ts', p7, A1, A2, A3, A4⟩ := A
      have pos : (0 : Int) < (ts'.length : Int) := by have := List.length_pos_iff.mpr A4; omega
      by_cases e : c * 45991 % 2147483543 % rate = 0
      · refine ⟨[some (.frz (ns.map PV.int)), some (.int hd), some (.int rate), some (.ref (st.length + 1)), some (.ref (st.length + 2)), some (.int c), some (.int (c * 45991 % 2147483543)), p7, some (.int (c * 45991 % 2147483543 / 60 % (ts'.length : Int))), some (.int (c * 62089911 % 4294967291 % (ts'.length : Int)))],
          st ++ [L0, .lst (ts'.map Tm.pv), .lst (es ++ [.tup [.int (c * 45991 % 2147483543 / 60 % (ts'.length : Int)), .int (c * 62089911 % 4294967291 % (ts'.length : Int)), .int (1 + c % 1000000000000), .tup [.str "told"]]]), .lst ((ns.take 90).map PV.int)], ?_, ts', _, _, _, _, _, _, rfl, rfl, A2, A3, by rw [List.length_append, List.length_singleton]; omega, fun z => by omega⟩
        have q : es.length < 16777216 := by omega
        unfold b_L_made_s1
        refine (seqS_nx A1).trans ?_
        simp only [seqS, ifS, setS, augS, dropS, retS, retN, nxS, bkS, ctS, asgS, subS, R.toS, R.bind, R.of, opF, unF, varF, cstF, chF, isB, asB, andT, orT, notT, andF, orF, notF, ifF, nilA, consA, tupF, lstF, cbF, callF, bmF', truT, truV, nameG, nilG, consG, tupG, List.set_cons_zero, List.set_cons_succ, List.getElem?_cons_zero, List.getElem?_cons_succ, Option.bind_some, Option.bind_none, Option.map_some, Option.map_none, List.length_cons, List.length_nil, List.cons_append, List.nil_append, List.append_nil, if_true, if_false, ite_true, ite_false, Bool.false_eq_true, reduceIte, reduceCtorEq, List.map_cons, List.map_nil, Nat.sub_self, List.replicate_succ, List.replicate_zero, Nat.reduceSub, Nat.reduceAdd, Nat.reduceLT, Nat.reduceLeDiff, Nat.reduceEqDiff, Nat.reduceMul, Nat.reducePow, Int.reduceLT, Int.reduceLE, Int.reduceAdd, Int.reduceMul, Int.reduceSub, Int.reduceNeg, Int.reduceEq, Int.reducePow, Int.reduceMod, Int.reduceDiv, Int.reduceToNat, decide_true, decide_false, and_true, true_and, and_self, Option.some.injEq, idxV, at0, at1, at2, at3, at4, at5, seqAt, lstAt, lenV, isiV, typV, kb1, kb2, kb3, kb4, kb5, kb6, kb7, kb8, kb9, kb10, kb11, addV, iaddV, subV, mulV, fdivV, modV, powV, negV, cmpV, isNonV, notNonV, eqV, neV, eqB, scEq, t1, t2, t3, t4, t5, t6, t7, t8, t9, t10, t11, t12, t13, t14, t15, t16, g1, g2, List.length_map, m1, m2, rp, e, c60, c12, pos, sizeLine_eq, tyOk, beq_self_eq_true, appendV, q, s2]
      · refine ⟨[some (.frz (ns.map PV.int)), some (.int hd), some (.int rate), some (.ref (st.length + 1)), some (.ref (st.length + 2)), some (.int c), some (.int (c * 45991 % 2147483543)), p7, o8, o9], st ++ [L0, .lst (ts'.map Tm.pv), .lst es, .lst ((ns.take 90).map PV.int)], ?_, ts', _, _, _, _, _, _, rfl, rfl, A2, A3, by omega, fun z => by omega⟩
        unfold b_L_made_s1
        refine (seqS_nx A1).trans ?_
        simp only [seqS, ifS, setS, augS, dropS, retS, retN, nxS, bkS, ctS, asgS, subS, R.toS, R.bind, R.of, opF, unF, varF, cstF, chF, isB, asB, andT, orT, notT, andF, orF, notF, ifF, nilA, consA, tupF, lstF, cbF, callF, bmF', truT, truV, nameG, nilG, consG, tupG, List.set_cons_zero, List.set_cons_succ, List.getElem?_cons_zero, List.getElem?_cons_succ, Option.bind_some, Option.bind_none, Option.map_some, Option.map_none, List.length_cons, List.length_nil, List.cons_append, List.nil_append, List.append_nil, if_true, if_false, ite_true, ite_false, Bool.false_eq_true, reduceIte, reduceCtorEq, List.map_cons, List.map_nil, Nat.sub_self, List.replicate_succ, List.replicate_zero, Nat.reduceSub, Nat.reduceAdd, Nat.reduceLT, Nat.reduceLeDiff, Nat.reduceEqDiff, Nat.reduceMul, Nat.reducePow, Int.reduceLT, Int.reduceLE, Int.reduceAdd, Int.reduceMul, Int.reduceSub, Int.reduceNeg, Int.reduceEq, Int.reducePow, Int.reduceMod, Int.reduceDiv, Int.reduceToNat, decide_true, decide_false, and_true, true_and, and_self, Option.some.injEq, idxV, at0, at1, at2, at3, at4, at5, seqAt, lstAt, lenV, isiV, typV, kb1, kb2, kb3, kb4, kb5, kb6, kb7, kb8, kb9, kb10, kb11, addV, iaddV, subV, mulV, fdivV, modV, powV, negV, cmpV, isNonV, notNonV, eqV, neV, eqB, scEq, t1, t2, t3, t4, t5, t6, t7, t8, t9, t10, t11, t12, t13, t14, t15, t16, m1, rp, e]) (fun e s hP => by
      obtain ⟨ts, es, o5, o6, o7, o8, o9, rfl, rfl, _⟩ := hP
      exact gd_one (by rw [getS]; rfl))
  obtain ⟨ts, es, o5, o6, o7, o8, o9, rfl, rfl, hG, hl, he, h0⟩ := h2
  refine ⟨ts, [L0, .lst (ts.map Tm.pv), .lst es, .lst ((ns.take 90).map PV.int)], ?_, by rw [getS]; rfl, hG, hl, fun z => h0 (by subst z; rfl)⟩
  have body : b_L_made [some (.frz (ns.map PV.int)), none, none, none, none, none, none, none, none, none] st = .rt (.tup [.ref (st.length + 1), .ref (st.length + 2)]) (st ++ [L0, .lst (ts.map Tm.pv), .lst es, .lst ((ns.take 90).map PV.int)]) := by
    unfold b_L_made
    refine (seqS_nx (e1 := [some (.frz (ns.map PV.int)), some (.int 0), none, none, none, none, none, none, none, none]) (s1 := st) rfl).trans ?_
    refine (seqS_nx (e1 := [some (.frz (ns.map PV.int)), some (.int hd), none, none, none, none, none, none, none, none]) (s1 := st) ?_).trans ?_
    · by_cases hn : 0 < ns.length
      · have hn' : (0 : Int) < ((ns.map PV.int).length : Int) := by rw [List.length_map]; omega
        rw [hhd, if_pos hn]
        have ha : atI (ns.map PV.int) 0 = some (.int (ns.getD 0 0)) := atI_nat' (by decide) (by
          rw [List.getElem?_map, List.getD_eq_getElem?_getD]
          show Option.map PV.int (ns[0]?) = _
          rw [List.getElem?_eq_getElem hn]
          rfl)
        simp only [seqS, ifS, setS, augS, dropS, retS, retN, nxS, bkS, ctS, asgS, subS, R.toS, R.bind, R.of, opF, unF, varF, cstF, chF, isB, asB, andT, orT, notT, andF, orF, notF, ifF, nilA, consA, tupF, lstF, cbF, callF, bmF', truT, truV, nameG, nilG, consG, tupG, List.set_cons_zero, List.set_cons_succ, List.getElem?_cons_zero, List.getElem?_cons_succ, Option.bind_some, Option.bind_none, Option.map_some, Option.map_none, List.length_cons, List.length_nil, List.cons_append, List.nil_append, List.append_nil, if_true, if_false, ite_true, ite_false, Bool.false_eq_true, reduceIte, reduceCtorEq, List.map_cons, List.map_nil, Nat.sub_self, List.replicate_succ, List.replicate_zero, Nat.reduceSub, Nat.reduceAdd, Nat.reduceLT, Nat.reduceLeDiff, Nat.reduceEqDiff, Nat.reduceMul, Nat.reducePow, Int.reduceLT, Int.reduceLE, Int.reduceAdd, Int.reduceMul, Int.reduceSub, Int.reduceNeg, Int.reduceEq, Int.reducePow, Int.reduceMod, Int.reduceDiv, Int.reduceToNat, decide_true, decide_false, and_true, true_and, and_self, Option.some.injEq, idxV, at0, at1, at2, at3, at4, at5, seqAt, lstAt, lenV, isiV, typV, kb1, kb2, kb3, kb4, kb5, kb6, kb7, kb8, kb9, kb10, kb11, addV, iaddV, subV, mulV, fdivV, modV, powV, negV, cmpV, isNonV, notNonV, hn', ha]
      · have hn' : ¬ (0 : Int) < ((ns.map PV.int).length : Int) := by rw [List.length_map]; omega
        rw [hhd, if_neg hn]
        simp only [seqS, ifS, setS, augS, dropS, retS, retN, nxS, bkS, ctS, asgS, subS, R.toS, R.bind, R.of, opF, unF, varF, cstF, chF, isB, asB, andT, orT, notT, andF, orF, notF, ifF, nilA, consA, tupF, lstF, cbF, callF, bmF', truT, truV, nameG, nilG, consG, tupG, List.set_cons_zero, List.set_cons_succ, List.getElem?_cons_zero, List.getElem?_cons_succ, Option.bind_some, Option.bind_none, Option.map_some, Option.map_none, List.length_cons, List.length_nil, List.cons_append, List.nil_append, List.append_nil, if_true, if_false, ite_true, ite_false, Bool.false_eq_true, reduceIte, reduceCtorEq, List.map_cons, List.map_nil, Nat.sub_self, List.replicate_succ, List.replicate_zero, Nat.reduceSub, Nat.reduceAdd, Nat.reduceLT, Nat.reduceLeDiff, Nat.reduceEqDiff, Nat.reduceMul, Nat.reducePow, Int.reduceLT, Int.reduceLE, Int.reduceAdd, Int.reduceMul, Int.reduceSub, Int.reduceNeg, Int.reduceEq, Int.reducePow, Int.reduceMod, Int.reduceDiv, Int.reduceToNat, decide_true, decide_false, and_true, true_and, and_self, Option.some.injEq, idxV, at0, at1, at2, at3, at4, at5, seqAt, lstAt, lenV, isiV, typV, kb1, kb2, kb3, kb4, kb5, kb6, kb7, kb8, kb9, kb10, kb11, addV, iaddV, subV, mulV, fdivV, modV, powV, negV, cmpV, isNonV, notNonV, hn']
    refine (seqS_nx (e1 := [some (.frz (ns.map PV.int)), some (.int hd), some (.int rate), none, none, none, none, none, none, none]) (s1 := st ++ [L0]) ?_).trans ?_
    · simp only [seqS, ifS, setS, augS, dropS, retS, retN, nxS, bkS, ctS, asgS, subS, R.toS, R.bind, R.of, opF, unF, varF, cstF, chF, isB, asB, andT, orT, notT, andF, orF, notF, ifF, nilA, consA, tupF, lstF, cbF, callF, bmF', truT, truV, nameG, nilG, consG, tupG, List.set_cons_zero, List.set_cons_succ, List.getElem?_cons_zero, List.getElem?_cons_succ, Option.bind_some, Option.bind_none, Option.map_some, Option.map_none, List.length_cons, List.length_nil, List.cons_append, List.nil_append, List.append_nil, if_true, if_false, ite_true, ite_false, Bool.false_eq_true, reduceIte, reduceCtorEq, List.map_cons, List.map_nil, Nat.sub_self, List.replicate_succ, List.replicate_zero, Nat.reduceSub, Nat.reduceAdd, Nat.reduceLT, Nat.reduceLeDiff, Nat.reduceEqDiff, Nat.reduceMul, Nat.reducePow, Int.reduceLT, Int.reduceLE, Int.reduceAdd, Int.reduceMul, Int.reduceSub, Int.reduceNeg, Int.reduceEq, Int.reducePow, Int.reduceMod, Int.reduceDiv, Int.reduceToNat, decide_true, decide_false, and_true, true_and, and_self, Option.some.injEq, idxV, at0, at1, at2, at3, at4, at5, seqAt, lstAt, lenV, isiV, typV, kb1, kb2, kb3, kb4, kb5, kb6, kb7, kb8, kb9, kb10, kb11, addV, iaddV, subV, mulV, fdivV, modV, powV, negV, cmpV, isNonV, notNonV, sizeLine_eq, getS0, hr, L0]
    simp only [seqS, ifS, setS, augS, dropS, retS, retN, nxS, bkS, ctS, asgS, subS, R.toS, R.bind, R.of, opF, unF, varF, cstF, chF, isB, asB, andT, orT, notT, andF, orF, notF, ifF, nilA, consA, tupF, lstF, cbF, callF, bmF', truT, truV, nameG, nilG, consG, tupG, List.set_cons_zero, List.set_cons_succ, List.getElem?_cons_zero, List.getElem?_cons_succ, Option.bind_some, Option.bind_none, Option.map_some, Option.map_none, List.length_cons, List.length_nil, List.cons_append, List.nil_append, List.append_nil, if_true, if_false, ite_true, ite_false, Bool.false_eq_true, reduceIte, reduceCtorEq, List.map_cons, List.map_nil, Nat.sub_self, List.replicate_succ, List.replicate_zero, Nat.reduceSub, Nat.reduceAdd, Nat.reduceLT, Nat.reduceLeDiff, Nat.reduceEqDiff, Nat.reduceMul, Nat.reducePow, Int.reduceLT, Int.reduceLE, Int.reduceAdd, Int.reduceMul, Int.reduceSub, Int.reduceNeg, Int.reduceEq, Int.reducePow, Int.reduceMod, Int.reduceDiv, Int.reduceToNat, decide_true, decide_false, and_true, true_and, and_self, Option.some.injEq, sliF, noO, someO, asI, slV, idxV, at0, at1, at2, at3, at4, at5, seqAt, lstAt, lenV, isiV, typV, kb1, kb2, kb3, kb4, kb5, kb6, kb7, kb8, kb9, kb10, kb11, sizeLine_eq, forS, seqI, gdOf, cut, appS, lenS, getS, h1]
  unfold F_L_made
  refine run_keep' body ?_
  simp only [refsOks, refsOk, decide_eq_false (show ¬ st.length + 1 < st.length by omega), Bool.false_and]
end Tm
end
end FL
end
section
set_option linter.all false
set_option maxRecDepth 100000
namespace FL
open PySem PySem.Spec PyProof.Rows L2
noncomputable section
namespace Pk07
open Ps
theorem F_letters {w : List Nat} {s : Store} (hw : ∀ c ∈ w, isL c = true) (h1 : 1 ≤ w.length) (h8 : w.length ≤ 8) : FL.F_L_letters [.str (S w)] s = .ok (.bl true) s := by
  unfold FL.F_L_letters
  refine run_rt0 ?_ rfl
  have hle : w.length ≤ 16777216 := by omega
  have q1 : (1 : Int) ≤ (w.length : Nat) := by omega
  have q2 : ((w.length : Nat) : Int) ≤ 8 := by omega
  obtain ⟨e', f1, o, he⟩ := for_pass (fi := strI (varF 0)) (g := nameG 1) (b := b_L_letters_s1) (e := [some (.str (S w)), none]) (st := s) (s1 := s) (xs := w.map fun c => .str (S [c])) (gd := []) (fun e => ∃ o, e = [some (.str (S w)), o])
    (by simp only [strI, varF, List.getElem?_cons_zero, R.bind, S_cps]; rfl) (gd_nil _) ⟨none, rfl⟩
    (fun i x e hx ⟨o, he⟩ => by
      subst he
      rw [List.getElem?_map] at hx
      obtain ⟨c, hc, rfl⟩ := Option.map_eq_some_iff.mp hx
      have m := decide_eq_true (az_mem.mpr (hw c (List.mem_of_getElem? hc)))
      exact ⟨_, rfl, [some (.str (S w)), some (.str (S [c]))], by simp only [b_L_letters_s1, letters_eq, seqS, ifS, setS, augS, dropS, retS, retN, nxS, bkS, ctS, asgS, subS, R.toS, R.bind, R.of, opF, unF, varF, cstF, chF, isB, asB, andT, orT, notT, andF, orF, notF, ifF, nilA, consA, tupF, lstF, cbF, callF, bmF', truT, truV, nameG, nilG, consG, tupG, List.set_cons_zero, List.set_cons_succ, List.getElem?_cons_zero, List.getElem?_cons_succ, Option.bind_some, Option.bind_none, Option.map_some, Option.map_none, List.length_cons, List.length_nil, List.cons_append, List.nil_append, List.append_nil, if_true, if_false, ite_true, ite_false, Bool.false_eq_true, reduceIte, reduceCtorEq, List.map_cons, List.map_nil, Nat.sub_self, List.replicate_succ, List.replicate_zero, Nat.reduceSub, Nat.reduceAdd, Nat.reduceLT, Nat.reduceLeDiff, Nat.reduceEqDiff, Nat.reduceMul, Nat.reducePow, Int.reduceLT, Int.reduceLE, Int.reduceAdd, Int.reduceMul, Int.reduceSub, Int.reduceNeg, Int.reduceEq, Int.reducePow, Int.reduceMod, Int.reduceDiv, Int.reduceToNat, decide_true, decide_false, and_true, true_and, and_self, Option.some.injEq, nin_one, m, Bool.not_true], _, rfl⟩)
  subst he
  unfold b_L_letters
  refine (seqS_nx f1).trans ?_
  simp only [seqS, ifS, setS, augS, dropS, retS, retN, nxS, bkS, ctS, asgS, subS, R.toS, R.bind, R.of, opF, unF, varF, cstF, chF, isB, asB, andT, orT, notT, andF, orF, notF, ifF, nilA, consA, tupF, lstF, cbF, callF, bmF', truT, truV, nameG, nilG, consG, tupG, List.set_cons_zero, List.set_cons_succ, List.getElem?_cons_zero, List.getElem?_cons_succ, Option.bind_some, Option.bind_none, Option.map_some, Option.map_none, List.length_cons, List.length_nil, List.cons_append, List.nil_append, List.append_nil, if_true, if_false, ite_true, ite_false, Bool.false_eq_true, reduceIte, reduceCtorEq, List.map_cons, List.map_nil, Nat.sub_self, List.replicate_succ, List.replicate_zero, Nat.reduceSub, Nat.reduceAdd, Nat.reduceLT, Nat.reduceLeDiff, Nat.reduceEqDiff, Nat.reduceMul, Nat.reducePow, Int.reduceLT, Int.reduceLE, Int.reduceAdd, Int.reduceMul, Int.reduceSub, Int.reduceNeg, Int.reduceEq, Int.reducePow, Int.reduceMod, Int.reduceDiv, Int.reduceToNat, decide_true, decide_false, and_true, true_and, and_self, Option.some.injEq, chF, leV, cmpV, lenV, S_len, sizeLine_eq, hle, q1, q2]
theorem W_letters {x : Str} {s : Store} (h : IsW x) : FL.F_L_letters [.str x] s = .ok (.bl true) s := by
  obtain ⟨l, rfl, h1, h2, h3⟩ := h
  refine F_letters (fun c hc => ?_) h1 h2
  have := h3 c hc
  unfold isL
  simp only [Bool.and_eq_true, decide_eq_true_eq]
  exact this
theorem bareL_mem {as : List Tr} (h : bareL as = true) {a : Tr} (ha : a ∈ as) : a.bare = true := by
  induction as with
  | nil => cases ha
  | cons b r ih =>
    rw [bareL, Bool.and_eq_true] at h
    rcases List.mem_cons.mp ha with rfl | ha
    · exact h.1
    · exact ih h.2 ha
theorem F_form {holed : Bool} : ∀ (n : Nat) (t : Tr) (d : Nat) (s : Store), t.depth ≤ n → d + t.depth ≤ 31 → t.Fit → t.ok = true → (holed = true ∨ t.bare = true) → FL.F_L_form n [t.pv, .int (d : Int), .bl holed] s = .ok (.int (t.parts : Nat)) s := by
  intro n
  induction n with
  | zero => intro t d s h; have := depth_pos t; omega
  | succ n ih =>
    intro t d s h hd hf ho hb
    have dp := depth_pos t
    have d30 : ¬ (d : Int) > 30 := by omega
    have n2 : ((2 : Nat) : Int) = 2 := rfl
    have n3 : ((3 : Nat) : Int) = 3 := rfl
    unfold FL.F_L_form
    cases t with
    | num i =>
      have h' : -(10 ^ 60) < i ∧ i < 10 ^ 60 := by simpa only [Tr.Fit] using hf
      refine run_rt0 ?_ rfl
      have c1 : ((0 : Int) ≤ 60 ∧ (60 : Int) ≤ 1000000 ∧ (10 : Int).natAbs < 2 ^ 64) := by decide
      have ab : ¬ ((if i < 0 then -i else i) ≥ 1000000000000000000000000000000000000000000000000000000000000) := by
        split <;> omega
      have m0 : mulOk 1000 0 = true := by decide +kernel
      simp only [b_L_form, Tr.pv, seqS, ifS, setS, augS, dropS, retS, retN, nxS, bkS, ctS, asgS, subS, R.toS, R.bind, R.of, opF, unF, varF, cstF, chF, isB, asB, andT, orT, notT, andF, orF, notF, ifF, nilA, consA, tupF, lstF, cbF, callF, bmF', truT, truV, nameG, nilG, consG, tupG, List.set_cons_zero, List.set_cons_succ, List.getElem?_cons_zero, List.getElem?_cons_succ, Option.bind_some, Option.bind_none, Option.map_some, Option.map_none, List.length_cons, List.length_nil, List.cons_append, List.nil_append, List.append_nil, if_true, if_false, ite_true, ite_false, Bool.false_eq_true, reduceIte, reduceCtorEq, List.map_cons, List.map_nil, Nat.sub_self, List.replicate_succ, List.replicate_zero, Nat.reduceSub, Nat.reduceAdd, Nat.reduceLT, Nat.reduceLeDiff, Nat.reduceEqDiff, Nat.reduceMul, Nat.reducePow, Int.reduceLT, Int.reduceLE, Int.reduceAdd, Int.reduceMul, Int.reduceSub, Int.reduceNeg, Int.reduceEq, Int.reducePow, Int.reduceMod, Int.reduceDiv, Int.reduceToNat, decide_true, decide_false, and_true, true_and, and_self, Option.some.injEq, idxV, at0, at1, at2, at3, at4, at5, seqAt, lstAt, lenV, isiV, typV, kb1, kb2, kb3, kb4, kb5, kb6, kb7, kb8, kb9, kb10, kb11, Bool.not_true, Bool.not_false, ltV, gtV, geV, cmpV, n2, d30, eqV, neV, eqB, scEq, t1, t2, t3, t4, t5, t6, t7, t8, t9, t10, t11, t12, t13, t14, t15, t16, absV', powV, c1, ab, intV, mulV, m0, addV, Tr.parts]
      rfl
    | name x =>
      have hx : IsW x := by simpa only [Tr.Fit] using hf
      refine run_rt0 ?_ rfl
      simp only [b_L_form, Tr.pv, seqS, ifS, setS, augS, dropS, retS, retN, nxS, bkS, ctS, asgS, subS, R.toS, R.bind, R.of, opF, unF, varF, cstF, chF, isB, asB, andT, orT, notT, andF, orF, notF, ifF, nilA, consA, tupF, lstF, cbF, callF, bmF', truT, truV, nameG, nilG, consG, tupG, List.set_cons_zero, List.set_cons_succ, List.getElem?_cons_zero, List.getElem?_cons_succ, Option.bind_some, Option.bind_none, Option.map_some, Option.map_none, List.length_cons, List.length_nil, List.cons_append, List.nil_append, List.append_nil, if_true, if_false, ite_true, ite_false, Bool.false_eq_true, reduceIte, reduceCtorEq, List.map_cons, List.map_nil, Nat.sub_self, List.replicate_succ, List.replicate_zero, Nat.reduceSub, Nat.reduceAdd, Nat.reduceLT, Nat.reduceLeDiff, Nat.reduceEqDiff, Nat.reduceMul, Nat.reducePow, Int.reduceLT, Int.reduceLE, Int.reduceAdd, Int.reduceMul, Int.reduceSub, Int.reduceNeg, Int.reduceEq, Int.reducePow, Int.reduceMod, Int.reduceDiv, Int.reduceToNat, decide_true, decide_false, and_true, true_and, and_self, Option.some.injEq, idxV, at0, at1, at2, at3, at4, at5, seqAt, lstAt, lenV, isiV, typV, kb1, kb2, kb3, kb4, kb5, kb6, kb7, kb8, kb9, kb10, kb11, Bool.not_true, ltV, gtV, cmpV, n2, d30, eqV, neV, eqB, scEq, t1, t2, t3, t4, t5, t6, t7, t8, t9, t10, t11, t12, t13, t14, t15, t16, W_letters hx, Tr.parts]
      rfl
    | any x =>
      have hx : IsW x := by simpa only [Tr.Fit] using hf
      have hh : holed = true := by
        rcases hb with hb | hb
        · exact hb
        · cases hb
      refine run_rt0 ?_ rfl
      simp only [b_L_form, Tr.pv, seqS, ifS, setS, augS, dropS, retS, retN, nxS, bkS, ctS, asgS, subS, R.toS, R.bind, R.of, opF, unF, varF, cstF, chF, isB, asB, andT, orT, notT, andF, orF, notF, ifF, nilA, consA, tupF, lstF, cbF, callF, bmF', truT, truV, nameG, nilG, consG, tupG, List.set_cons_zero, List.set_cons_succ, List.getElem?_cons_zero, List.getElem?_cons_succ, Option.bind_some, Option.bind_none, Option.map_some, Option.map_none, List.length_cons, List.length_nil, List.cons_append, List.nil_append, List.append_nil, if_true, if_false, ite_true, ite_false, Bool.false_eq_true, reduceIte, reduceCtorEq, List.map_cons, List.map_nil, Nat.sub_self, List.replicate_succ, List.replicate_zero, Nat.reduceSub, Nat.reduceAdd, Nat.reduceLT, Nat.reduceLeDiff, Nat.reduceEqDiff, Nat.reduceMul, Nat.reducePow, Int.reduceLT, Int.reduceLE, Int.reduceAdd, Int.reduceMul, Int.reduceSub, Int.reduceNeg, Int.reduceEq, Int.reducePow, Int.reduceMod, Int.reduceDiv, Int.reduceToNat, decide_true, decide_false, and_true, true_and, and_self, Option.some.injEq, idxV, at0, at1, at2, at3, at4, at5, seqAt, lstAt, lenV, isiV, typV, kb1, kb2, kb3, kb4, kb5, kb6, kb7, kb8, kb9, kb10, kb11, Bool.not_true, ltV, gtV, cmpV, n2, d30, eqV, neV, eqB, scEq, t1, t2, t3, t4, t5, t6, t7, t8, t9, t10, t11, t12, t13, t14, t15, t16, W_letters hx, hh, Tr.parts]
      rfl
    | of w as =>
      have h' : IsW w ∧ as.length ≤ 4 ∧ FitL as := by simpa only [Tr.Fit] using hf
      obtain ⟨hw, h4, hfl⟩ := h'
      simp only [Tr.depth] at h hd
      simp only [Tr.ok, Bool.and_eq_true] at ho
      have hol := ho.2
      have ne : as ≠ [] := fun z => by rw [z] at ho; cases ho.1.1
      have lp := List.length_pos_iff.mpr ne
      have pl : (pvs as).length = as.length := by rw [pvs_map, List.length_map]
      have l1 : (1 : Int) ≤ ((pvs as).length : Nat) := by omega
      have l4 : (((pvs as).length : Nat) : Int) ≤ 4 := by omega
      have lc : lcF (seqI (opF idxV (varF 0) (cstF (.int 2)))) [3] (nameG 3) yesT (b_L_form_e1 (FL.F_L_form n)) [some (Tr.of w as).pv, some (.int (d : Int)), some (.bl holed), none] s = .ok (.ref s.length) (s ++ [.lst (as.map fun a => .int ((a.parts : Nat) : Int))]) := by
        refine lcF_map (gd := []) as Tr.pv (fun a => .int ((a.parts : Nat) : Int)) (by simp only [seqI, Tr.pv, pvs_map, seqS, ifS, setS, augS, dropS, retS, retN, nxS, bkS, ctS, asgS, subS, R.toS, R.bind, R.of, opF, unF, varF, cstF, chF, isB, asB, andT, orT, notT, andF, orF, notF, ifF, nilA, consA, tupF, lstF, cbF, callF, bmF', truT, truV, nameG, nilG, consG, tupG, List.set_cons_zero, List.set_cons_succ, List.getElem?_cons_zero, List.getElem?_cons_succ, Option.bind_some, Option.bind_none, Option.map_some, Option.map_none, List.length_cons, List.length_nil, List.cons_append, List.nil_append, List.append_nil, if_true, if_false, ite_true, ite_false, Bool.false_eq_true, reduceIte, reduceCtorEq, List.map_cons, List.map_nil, Nat.sub_self, List.replicate_succ, List.replicate_zero, Nat.reduceSub, Nat.reduceAdd, Nat.reduceLT, Nat.reduceLeDiff, Nat.reduceEqDiff, Nat.reduceMul, Nat.reducePow, Int.reduceLT, Int.reduceLE, Int.reduceAdd, Int.reduceMul, Int.reduceSub, Int.reduceNeg, Int.reduceEq, Int.reducePow, Int.reduceMod, Int.reduceDiv, Int.reduceToNat, decide_true, decide_false, and_true, true_and, and_self, Option.some.injEq, idxV, at0, at1, at2, at3, at4, at5, seqAt, lstAt, lenV, isiV, typV, kb1, kb2, kb3, kb4, kb5, kb6, kb7, kb8, kb9, kb10, kb11, gdOf]) (fun _ => gd_nil _) (by rw [sizeLine_eq]; omega) fun a ha => ⟨_, rfl, fun acc => ?_⟩
        have dl := depthL_le ha
        have r := ih a (d + 1) (s ++ [.lst acc]) (by omega) (by omega) (FitL_iff.mp hfl a ha) (okL_mem hol ha) (hb.imp id fun z => by
          simp only [Tr.bare] at z
          exact bareL_mem z ha)
        rw [show ((d + 1 : Nat) : Int) = (d : Int) + 1 from rfl] at r
        simp only [b_L_form_e1, wipeE, seqS, ifS, setS, augS, dropS, retS, retN, nxS, bkS, ctS, asgS, subS, R.toS, R.bind, R.of, opF, unF, varF, cstF, chF, isB, asB, andT, orT, notT, andF, orF, notF, ifF, nilA, consA, tupF, lstF, cbF, callF, bmF', truT, truV, nameG, nilG, consG, tupG, List.set_cons_zero, List.set_cons_succ, List.getElem?_cons_zero, List.getElem?_cons_succ, Option.bind_some, Option.bind_none, Option.map_some, Option.map_none, List.length_cons, List.length_nil, List.cons_append, List.nil_append, List.append_nil, if_true, if_false, ite_true, ite_false, Bool.false_eq_true, reduceIte, reduceCtorEq, List.map_cons, List.map_nil, Nat.sub_self, List.replicate_succ, List.replicate_zero, Nat.reduceSub, Nat.reduceAdd, Nat.reduceLT, Nat.reduceLeDiff, Nat.reduceEqDiff, Nat.reduceMul, Nat.reducePow, Int.reduceLT, Int.reduceLE, Int.reduceAdd, Int.reduceMul, Int.reduceSub, Int.reduceNeg, Int.reduceEq, Int.reducePow, Int.reduceMod, Int.reduceDiv, Int.reduceToNat, decide_true, decide_false, and_true, true_and, and_self, Option.some.injEq, addV, r]
      have sm : sumV [.ref s.length] (s ++ [.lst (as.map fun a => .int ((a.parts : Nat) : Int))]) = some (.int ((partsL as : Nat) : Int), s ++ [.lst (as.map fun a => .int ((a.parts : Nat) : Int))]) := by
        have g0 : (s ++ [PO.lst (as.map fun a => .int ((a.parts : Nat) : Int))])[s.length]? = some (.lst (as.map fun a => .int ((a.parts : Nat) : Int))) := getS0
        simp only [sumV, lstAt, g0, Option.bind_some, intsOf_mapf, Option.map_some]
        have : (as.map fun a => ((a.parts : Nat) : Int)) = (as.map Tr.parts).map fun n : Nat => (n : Int) := by rw [List.map_map]; rfl
        rw [this, sum_nat, partsL_eq]
      refine run_rt (g := [.lst (as.map fun a => .int ((a.parts : Nat) : Int))]) ?_ rfl
      let E : Env := [some (Tr.of w as).pv, some (.int (d : Int)), some (.bl holed), none]
      unfold b_L_form
      refine (seqS_nx (e1 := E) (s1 := s) (by simp only [E, Tr.pv, seqS, ifS, setS, augS, dropS, retS, retN, nxS, bkS, ctS, asgS, subS, R.toS, R.bind, R.of, opF, unF, varF, cstF, chF, isB, asB, andT, orT, notT, andF, orF, notF, ifF, nilA, consA, tupF, lstF, cbF, callF, bmF', truT, truV, nameG, nilG, consG, tupG, List.set_cons_zero, List.set_cons_succ, List.getElem?_cons_zero, List.getElem?_cons_succ, Option.bind_some, Option.bind_none, Option.map_some, Option.map_none, List.length_cons, List.length_nil, List.cons_append, List.nil_append, List.append_nil, if_true, if_false, ite_true, ite_false, Bool.false_eq_true, reduceIte, reduceCtorEq, List.map_cons, List.map_nil, Nat.sub_self, List.replicate_succ, List.replicate_zero, Nat.reduceSub, Nat.reduceAdd, Nat.reduceLT, Nat.reduceLeDiff, Nat.reduceEqDiff, Nat.reduceMul, Nat.reducePow, Int.reduceLT, Int.reduceLE, Int.reduceAdd, Int.reduceMul, Int.reduceSub, Int.reduceNeg, Int.reduceEq, Int.reducePow, Int.reduceMod, Int.reduceDiv, Int.reduceToNat, decide_true, decide_false, and_true, true_and, and_self, Option.some.injEq, idxV, at0, at1, at2, at3, at4, at5, seqAt, lstAt, lenV, isiV, typV, kb1, kb2, kb3, kb4, kb5, kb6, kb7, kb8, kb9, kb10, kb11, Bool.not_true, ltV, gtV, cmpV, n3, d30])).trans ?_
      refine (seqS_nx (e1 := E) (s1 := s) (by simp only [E, Tr.pv, seqS, ifS, setS, augS, dropS, retS, retN, nxS, bkS, ctS, asgS, subS, R.toS, R.bind, R.of, opF, unF, varF, cstF, chF, isB, asB, andT, orT, notT, andF, orF, notF, ifF, nilA, consA, tupF, lstF, cbF, callF, bmF', truT, truV, nameG, nilG, consG, tupG, List.set_cons_zero, List.set_cons_succ, List.getElem?_cons_zero, List.getElem?_cons_succ, Option.bind_some, Option.bind_none, Option.map_some, Option.map_none, List.length_cons, List.length_nil, List.cons_append, List.nil_append, List.append_nil, if_true, if_false, ite_true, ite_false, Bool.false_eq_true, reduceIte, reduceCtorEq, List.map_cons, List.map_nil, Nat.sub_self, List.replicate_succ, List.replicate_zero, Nat.reduceSub, Nat.reduceAdd, Nat.reduceLT, Nat.reduceLeDiff, Nat.reduceEqDiff, Nat.reduceMul, Nat.reducePow, Int.reduceLT, Int.reduceLE, Int.reduceAdd, Int.reduceMul, Int.reduceSub, Int.reduceNeg, Int.reduceEq, Int.reducePow, Int.reduceMod, Int.reduceDiv, Int.reduceToNat, decide_true, decide_false, and_true, true_and, and_self, Option.some.injEq, idxV, at0, at1, at2, at3, at4, at5, seqAt, lstAt, lenV, isiV, typV, kb1, kb2, kb3, kb4, kb5, kb6, kb7, kb8, kb9, kb10, kb11, eqV, neV, eqB, scEq, t1, t2, t3, t4, t5, t6, t7, t8, t9, t10, t11, t12, t13, t14, t15, t16])).trans ?_
      refine (seqS_nx (e1 := E) (s1 := s) (by simp only [E, Tr.pv, seqS, ifS, setS, augS, dropS, retS, retN, nxS, bkS, ctS, asgS, subS, R.toS, R.bind, R.of, opF, unF, varF, cstF, chF, isB, asB, andT, orT, notT, andF, orF, notF, ifF, nilA, consA, tupF, lstF, cbF, callF, bmF', truT, truV, nameG, nilG, consG, tupG, List.set_cons_zero, List.set_cons_succ, List.getElem?_cons_zero, List.getElem?_cons_succ, Option.bind_some, Option.bind_none, Option.map_some, Option.map_none, List.length_cons, List.length_nil, List.cons_append, List.nil_append, List.append_nil, if_true, if_false, ite_true, ite_false, Bool.false_eq_true, reduceIte, reduceCtorEq, List.map_cons, List.map_nil, Nat.sub_self, List.replicate_succ, List.replicate_zero, Nat.reduceSub, Nat.reduceAdd, Nat.reduceLT, Nat.reduceLeDiff, Nat.reduceEqDiff, Nat.reduceMul, Nat.reducePow, Int.reduceLT, Int.reduceLE, Int.reduceAdd, Int.reduceMul, Int.reduceSub, Int.reduceNeg, Int.reduceEq, Int.reducePow, Int.reduceMod, Int.reduceDiv, Int.reduceToNat, decide_true, decide_false, and_true, true_and, and_self, Option.some.injEq, idxV, at0, at1, at2, at3, at4, at5, seqAt, lstAt, lenV, isiV, typV, kb1, kb2, kb3, kb4, kb5, kb6, kb7, kb8, kb9, kb10, kb11, Bool.not_true, W_letters hw])).trans ?_
      refine (seqS_nx (e1 := E) (s1 := s) (by cases holed <;> simp only [E, Tr.pv, seqS, ifS, setS, augS, dropS, retS, retN, nxS, bkS, ctS, asgS, subS, R.toS, R.bind, R.of, opF, unF, varF, cstF, chF, isB, asB, andT, orT, notT, andF, orF, notF, ifF, nilA, consA, tupF, lstF, cbF, callF, bmF', truT, truV, nameG, nilG, consG, tupG, List.set_cons_zero, List.set_cons_succ, List.getElem?_cons_zero, List.getElem?_cons_succ, Option.bind_some, Option.bind_none, Option.map_some, Option.map_none, List.length_cons, List.length_nil, List.cons_append, List.nil_append, List.append_nil, if_true, if_false, ite_true, ite_false, Bool.false_eq_true, reduceIte, reduceCtorEq, List.map_cons, List.map_nil, Nat.sub_self, List.replicate_succ, List.replicate_zero, Nat.reduceSub, Nat.reduceAdd, Nat.reduceLT, Nat.reduceLeDiff, Nat.reduceEqDiff, Nat.reduceMul, Nat.reducePow, Int.reduceLT, Int.reduceLE, Int.reduceAdd, Int.reduceMul, Int.reduceSub, Int.reduceNeg, Int.reduceEq, Int.reducePow, Int.reduceMod, Int.reduceDiv, Int.reduceToNat, decide_true, decide_false, and_true, true_and, and_self, Option.some.injEq, idxV, at0, at1, at2, at3, at4, at5, seqAt, lstAt, lenV, isiV, typV, kb1, kb2, kb3, kb4, kb5, kb6, kb7, kb8, kb9, kb10, kb11, eqV, neV, eqB, scEq, t1, t2, t3, t4, t5, t6, t7, t8, t9, t10, t11, t12, t13, t14, t15, t16])).trans ?_
      refine (seqS_nx (e1 := E) (s1 := s) (by simp only [E, Tr.pv, seqS, ifS, setS, augS, dropS, retS, retN, nxS, bkS, ctS, asgS, subS, R.toS, R.bind, R.of, opF, unF, varF, cstF, chF, isB, asB, andT, orT, notT, andF, orF, notF, ifF, nilA, consA, tupF, lstF, cbF, callF, bmF', truT, truV, nameG, nilG, consG, tupG, List.set_cons_zero, List.set_cons_succ, List.getElem?_cons_zero, List.getElem?_cons_succ, Option.bind_some, Option.bind_none, Option.map_some, Option.map_none, List.length_cons, List.length_nil, List.cons_append, List.nil_append, List.append_nil, if_true, if_false, ite_true, ite_false, Bool.false_eq_true, reduceIte, reduceCtorEq, List.map_cons, List.map_nil, Nat.sub_self, List.replicate_succ, List.replicate_zero, Nat.reduceSub, Nat.reduceAdd, Nat.reduceLT, Nat.reduceLeDiff, Nat.reduceEqDiff, Nat.reduceMul, Nat.reducePow, Int.reduceLT, Int.reduceLE, Int.reduceAdd, Int.reduceMul, Int.reduceSub, Int.reduceNeg, Int.reduceEq, Int.reducePow, Int.reduceMod, Int.reduceDiv, Int.reduceToNat, decide_true, decide_false, and_true, true_and, and_self, Option.some.injEq, idxV, at0, at1, at2, at3, at4, at5, seqAt, lstAt, lenV, isiV, typV, kb1, kb2, kb3, kb4, kb5, kb6, kb7, kb8, kb9, kb10, kb11, eqV, neV, eqB, scEq, t1, t2, t3, t4, t5, t6, t7, t8, t9, t10, t11, t12, t13, t14, t15, t16, Bool.not_true, chF, leV, cmpV, l1, l4, n3])).trans ?_
      have ap : (1 : Int) + ((partsL as : Nat) : Int) = (((Tr.of w as).parts : Nat) : Int) := by simp only [Tr.parts]; omega
      simp only [E, retS, opF, cstF, cbF, consA, nilA, lc, bind_ok, R.bind, sm, R.of, R.toS, addV, ap]
/-! ### the texts -/
def Short (v : PV) : Prop := ∃ x : Str, v = .str x ∧ x.length ≤ 2000
theorem short {x : Str} (h : x.length ≤ 2000) : Short (.str x) := ⟨x, rfl, h⟩
theorem pick {xs : List PV} {i : Int} (h : ∀ v ∈ xs, Short v) (h0 : 0 ≤ i) (hi : i < xs.length) : ∃ x : Str, atI xs i = some (.str x) ∧ x.length ≤ 2000 := by
  obtain ⟨x, hx, hl⟩ := h _ (List.getElem_mem (show i.toNat < xs.length by omega))
  exact ⟨x, by rw [atI_lt h0 hi, hx], hl⟩
theorem pow_log {m : Int} (h0 : 0 ≤ m) (h1 : m < 2147483648) (k : Nat) (hk : k ≤ 3) : (m ^ k).natAbs.log2 < 1920 := by
  have a : (m ^ k).natAbs ≤ 2147483648 ^ 3 := by
    rw [Int.natAbs_pow]
    exact Nat.le_trans (Nat.pow_le_pow_left (by omega : m.natAbs ≤ 2147483648) k) (Nat.pow_le_pow_right (by decide) hk)
  have := log2_lt (n := (m ^ k).natAbs) (k := 199) (by
    have : (2147483648 : Nat) ^ 3 < 2 ^ 200 := by decide
    omega)
  omega
theorem num_short {i : Int} (h : i.natAbs.log2 < 1920) : ((toString i : String) : Str).length ≤ 2000 := by
  have := int_text_len_1921 h
  omega
theorem op_l {g : PV → PV → Store → O PV} {fa fb : FE} {e : Env} {s s1 : Store} {x : PV} (h : fa e s = .ok x s1) : opF g fa fb e s = ((fb e s1).bind fun y s2 => R.of (g x y s2)) := by
  unfold opF
  rw [h, bind_ok]
theorem F_figs {m k : Int} {s : Store} (h0 : 0 ≤ m) (h1 : m < 2147483648) : ∃ x : Str, FL.F_L_figures [.int m, .int k] s = .ok (.str x) s ∧ x.length ≤ 2000 := by
  have z := Tm.md (m / 4) 6 (by decide)
  have c4 : (0 < (4 : Int) ∧ (4 : Int).natAbs.log2 < 9000) := by decide
  have c6 : (0 < (6 : Int) ∧ (6 : Int).natAbs.log2 < 9000) := by decide
  have c2 : ((0 : Int) ≤ 2 ∧ (2 : Int) ≤ 1000000 ∧ m.natAbs < 2 ^ 64) := ⟨by decide, by decide, by omega⟩
  have l1 : m.natAbs.log2 < 1920 := by have := pow_log h0 h1 1 (by decide); rwa [Int.pow_one] at this
  have l2 := pow_log h0 h1 2 (by decide)
  by_cases hk : k = 0
  · let L : List PV := [.str "-", .str "0", .str "00", .str "-3", .str "7", .str (toString m)]
    obtain ⟨x, hx, hl⟩ := pick (xs := L) (i := m / 4 % 6) (fun v hv => by
      simp only [L, List.mem_cons, List.not_mem_nil, or_false] at hv
      rcases hv with rfl | rfl | rfl | rfl | rfl | rfl
      · exact short (by decide)
      · exact short (by decide)
      · exact short (by decide)
      · exact short (by decide)
      · exact short (by decide)
      · exact short (num_short l1)) z.1 z.2
    refine ⟨x, ?_, hl⟩
    unfold FL.F_L_figures
    refine run_rt (g := [.lst L]) ?_ rfl
    have gl : (s ++ [PO.lst L])[s.length]? = some (.lst L) := getS0
    have ix : idxV (.ref s.length) (.int (m / 4 % 6)) (s ++ [.lst L]) = some (.str x, s ++ [.lst L]) := by simp only [idxV, seqAt, lstAt, gl, hx, Option.map_some]
    have e0 : (isB (opF eqV (varF 1) (cstF (.int 0)))) [some (.int m), some (.int k)] s = .ok true s := by simp only [seqS, ifS, setS, augS, dropS, retS, retN, nxS, bkS, ctS, asgS, subS, R.toS, R.bind, R.of, opF, unF, varF, cstF, chF, isB, asB, andT, orT, notT, andF, orF, notF, ifF, nilA, consA, tupF, lstF, cbF, callF, bmF', truT, truV, nameG, nilG, consG, tupG, List.set_cons_zero, List.set_cons_succ, List.getElem?_cons_zero, List.getElem?_cons_succ, Option.bind_some, Option.bind_none, Option.map_some, Option.map_none, List.length_cons, List.length_nil, List.cons_append, List.nil_append, List.append_nil, if_true, if_false, ite_true, ite_false, Bool.false_eq_true, reduceIte, reduceCtorEq, List.map_cons, List.map_nil, Nat.sub_self, List.replicate_succ, List.replicate_zero, Nat.reduceSub, Nat.reduceAdd, Nat.reduceLT, Nat.reduceLeDiff, Nat.reduceEqDiff, Nat.reduceMul, Nat.reducePow, Int.reduceLT, Int.reduceLE, Int.reduceAdd, Int.reduceMul, Int.reduceSub, Int.reduceNeg, Int.reduceEq, Int.reducePow, Int.reduceMod, Int.reduceDiv, Int.reduceToNat, decide_true, decide_false, and_true, true_and, and_self, Option.some.injEq, eqV, neV, eqB, scEq, t1, t2, t3, t4, t5, t6, t7, t8, t9, t10, t11, t12, t13, t14, t15, t16, hk]
    unfold b_L_figures
    refine seqS_rt ((ifS_t e0).trans ?_)
    have ls : (lstF (consA (cstF (.str ("-" : Str))) (consA (cstF (.str ("0" : Str))) (consA (cstF (.str ("00" : Str))) (consA (cstF (.str ("-3" : Str))) (consA (cstF (.str ("7" : Str))) (consA (cbF strV (consA (varF 0) nilA)) nilA))))))) [some (.int m), some (.int k)] s = .ok (.ref s.length) (s ++ [.lst L]) := by
      simp only [seqS, ifS, setS, augS, dropS, retS, retN, nxS, bkS, ctS, asgS, subS, R.toS, R.bind, R.of, opF, unF, varF, cstF, chF, isB, asB, andT, orT, notT, andF, orF, notF, ifF, nilA, consA, tupF, lstF, cbF, callF, bmF', truT, truV, nameG, nilG, consG, tupG, List.set_cons_zero, List.set_cons_succ, List.getElem?_cons_zero, List.getElem?_cons_succ, Option.bind_some, Option.bind_none, Option.map_some, Option.map_none, List.length_cons, List.length_nil, List.cons_append, List.nil_append, List.append_nil, if_true, if_false, ite_true, ite_false, Bool.false_eq_true, reduceIte, reduceCtorEq, List.map_cons, List.map_nil, Nat.sub_self, List.replicate_succ, List.replicate_zero, Nat.reduceSub, Nat.reduceAdd, Nat.reduceLT, Nat.reduceLeDiff, Nat.reduceEqDiff, Nat.reduceMul, Nat.reducePow, Int.reduceLT, Int.reduceLE, Int.reduceAdd, Int.reduceMul, Int.reduceSub, Int.reduceNeg, Int.reduceEq, Int.reducePow, Int.reduceMod, Int.reduceDiv, Int.reduceToNat, decide_true, decide_false, and_true, true_and, and_self, Option.some.injEq, strV, l1, sizeLine_eq, L]
    unfold retS
    rw [op_l ls]
    simp only [seqS, ifS, setS, augS, dropS, retS, retN, nxS, bkS, ctS, asgS, subS, R.toS, R.bind, R.of, opF, unF, varF, cstF, chF, isB, asB, andT, orT, notT, andF, orF, notF, ifF, nilA, consA, tupF, lstF, cbF, callF, bmF', truT, truV, nameG, nilG, consG, tupG, List.set_cons_zero, List.set_cons_succ, List.getElem?_cons_zero, List.getElem?_cons_succ, Option.bind_some, Option.bind_none, Option.map_some, Option.map_none, List.length_cons, List.length_nil, List.cons_append, List.nil_append, List.append_nil, if_true, if_false, ite_true, ite_false, Bool.false_eq_true, reduceIte, reduceCtorEq, List.map_cons, List.map_nil, Nat.sub_self, List.replicate_succ, List.replicate_zero, Nat.reduceSub, Nat.reduceAdd, Nat.reduceLT, Nat.reduceLeDiff, Nat.reduceEqDiff, Nat.reduceMul, Nat.reducePow, Int.reduceLT, Int.reduceLE, Int.reduceAdd, Int.reduceMul, Int.reduceSub, Int.reduceNeg, Int.reduceEq, Int.reducePow, Int.reduceMod, Int.reduceDiv, Int.reduceToNat, decide_true, decide_false, and_true, true_and, and_self, Option.some.injEq, fdivV, modV, c4, c6, ix]
  · let L : List PV := [.str "0", .str "7", .str "12", .str "000", .str (toString m), .str (toString (m ^ 2))]
    obtain ⟨x, hx, hl⟩ := pick (xs := L) (i := m / 4 % 6) (fun v hv => by
      simp only [L, List.mem_cons, List.not_mem_nil, or_false] at hv
      rcases hv with rfl | rfl | rfl | rfl | rfl | rfl
      · exact short (by decide)
      · exact short (by decide)
      · exact short (by decide)
      · exact short (by decide)
      · exact short (num_short l1)
      · exact short (num_short l2)) z.1 z.2
    refine ⟨x, ?_, hl⟩
    unfold FL.F_L_figures
    refine run_rt (g := [.lst L]) ?_ rfl
    have gl : (s ++ [PO.lst L])[s.length]? = some (.lst L) := getS0
    have ix : idxV (.ref s.length) (.int (m / 4 % 6)) (s ++ [.lst L]) = some (.str x, s ++ [.lst L]) := by simp only [idxV, seqAt, lstAt, gl, hx, Option.map_some]
    have e0 : (isB (opF eqV (varF 1) (cstF (.int 0)))) [some (.int m), some (.int k)] s = .ok false s := by simp only [seqS, ifS, setS, augS, dropS, retS, retN, nxS, bkS, ctS, asgS, subS, R.toS, R.bind, R.of, opF, unF, varF, cstF, chF, isB, asB, andT, orT, notT, andF, orF, notF, ifF, nilA, consA, tupF, lstF, cbF, callF, bmF', truT, truV, nameG, nilG, consG, tupG, List.set_cons_zero, List.set_cons_succ, List.getElem?_cons_zero, List.getElem?_cons_succ, Option.bind_some, Option.bind_none, Option.map_some, Option.map_none, List.length_cons, List.length_nil, List.cons_append, List.nil_append, List.append_nil, if_true, if_false, ite_true, ite_false, Bool.false_eq_true, reduceIte, reduceCtorEq, List.map_cons, List.map_nil, Nat.sub_self, List.replicate_succ, List.replicate_zero, Nat.reduceSub, Nat.reduceAdd, Nat.reduceLT, Nat.reduceLeDiff, Nat.reduceEqDiff, Nat.reduceMul, Nat.reducePow, Int.reduceLT, Int.reduceLE, Int.reduceAdd, Int.reduceMul, Int.reduceSub, Int.reduceNeg, Int.reduceEq, Int.reducePow, Int.reduceMod, Int.reduceDiv, Int.reduceToNat, decide_true, decide_false, and_true, true_and, and_self, Option.some.injEq, eqV, neV, eqB, scEq, t1, t2, t3, t4, t5, t6, t7, t8, t9, t10, t11, t12, t13, t14, t15, t16, hk]
    unfold b_L_figures
    refine (seqS_nx ((ifS_f e0).trans rfl)).trans ?_
    have ls : (lstF (consA (cstF (.str ("0" : Str))) (consA (cstF (.str ("7" : Str))) (consA (cstF (.str ("12" : Str))) (consA (cstF (.str ("000" : Str))) (consA (cbF strV (consA (varF 0) nilA)) (consA (cbF strV (consA (opF powV (varF 0) (cstF (.int 2))) nilA)) nilA))))))) [some (.int m), some (.int k)] s = .ok (.ref s.length) (s ++ [.lst L]) := by
      simp only [seqS, ifS, setS, augS, dropS, retS, retN, nxS, bkS, ctS, asgS, subS, R.toS, R.bind, R.of, opF, unF, varF, cstF, chF, isB, asB, andT, orT, notT, andF, orF, notF, ifF, nilA, consA, tupF, lstF, cbF, callF, bmF', truT, truV, nameG, nilG, consG, tupG, List.set_cons_zero, List.set_cons_succ, List.getElem?_cons_zero, List.getElem?_cons_succ, Option.bind_some, Option.bind_none, Option.map_some, Option.map_none, List.length_cons, List.length_nil, List.cons_append, List.nil_append, List.append_nil, if_true, if_false, ite_true, ite_false, Bool.false_eq_true, reduceIte, reduceCtorEq, List.map_cons, List.map_nil, Nat.sub_self, List.replicate_succ, List.replicate_zero, Nat.reduceSub, Nat.reduceAdd, Nat.reduceLT, Nat.reduceLeDiff, Nat.reduceEqDiff, Nat.reduceMul, Nat.reducePow, Int.reduceLT, Int.reduceLE, Int.reduceAdd, Int.reduceMul, Int.reduceSub, Int.reduceNeg, Int.reduceEq, Int.reducePow, Int.reduceMod, Int.reduceDiv, Int.reduceToNat, decide_true, decide_false, and_true, true_and, and_self, Option.some.injEq, strV, l1, powV, c2, l2, sizeLine_eq, L]
    unfold retS
    rw [op_l ls]
    simp only [seqS, ifS, setS, augS, dropS, retS, retN, nxS, bkS, ctS, asgS, subS, R.toS, R.bind, R.of, opF, unF, varF, cstF, chF, isB, asB, andT, orT, notT, andF, orF, notF, ifF, nilA, consA, tupF, lstF, cbF, callF, bmF', truT, truV, nameG, nilG, consG, tupG, List.set_cons_zero, List.set_cons_succ, List.getElem?_cons_zero, List.getElem?_cons_succ, Option.bind_some, Option.bind_none, Option.map_some, Option.map_none, List.length_cons, List.length_nil, List.cons_append, List.nil_append, List.append_nil, if_true, if_false, ite_true, ite_false, Bool.false_eq_true, reduceIte, reduceCtorEq, List.map_cons, List.map_nil, Nat.sub_self, List.replicate_succ, List.replicate_zero, Nat.reduceSub, Nat.reduceAdd, Nat.reduceLT, Nat.reduceLeDiff, Nat.reduceEqDiff, Nat.reduceMul, Nat.reducePow, Int.reduceLT, Int.reduceLE, Int.reduceAdd, Int.reduceMul, Int.reduceSub, Int.reduceNeg, Int.reduceEq, Int.reducePow, Int.reduceMod, Int.reduceDiv, Int.reduceToNat, decide_true, decide_false, and_true, true_and, and_self, Option.some.injEq, fdivV, modV, c4, c6, ix]
theorem W_short (m : Int) : (wordS m).length ≤ 8 := (word_W m).len
theorem F_piece {m k way : Int} {s : Store} (h0 : 0 ≤ m) (h1 : m < 2147483648) : ∃ x : Str, FL.F_L_piece [.int m, .int k, .int way] s = .ok (.str x) s ∧ x.length ≤ 2000 := by
  have c40 : (0 < (40 : Int) ∧ (40 : Int).natAbs.log2 < 9000) := by decide
  have c4 : (0 < (4 : Int) ∧ (4 : Int).natAbs.log2 < 9000) := by decide
  have c3 : (0 < (3 : Int) ∧ (3 : Int).natAbs.log2 < 9000) := by decide
  have p3 : ((0 : Int) ≤ 3 ∧ (3 : Int) ≤ 1000000 ∧ m.natAbs < 2 ^ 64) := ⟨by decide, by decide, by omega⟩
  have l3 := pow_log h0 h1 3 (by decide)
  have hw : ∀ s, F_L_word [.int (m / 40)] s = .ok (.str (wordS (m / 40))) s := fun s => F_word (by omega)
  obtain ⟨w, hwd⟩ : ∃ w, w = wordS (m / 40) := ⟨_, rfl⟩
  have wl : w.length ≤ 8 := hwd ▸ W_short _
  rw [← hwd] at hw
  have e1 : ("(" : Str).length = 1 := rfl
  have e2 : ("?" : Str).length = 1 := rfl
  have a1 : w.length + 1 ≤ 16777216 := by omega
  have a2 : 1 + w.length ≤ 16777216 := by omega
  let L : List PV := [.str w, .str "a", .str (w ++ "("), .str ")", .str ", ", .str ("?" ++ w), .str "x(y, ", .str "z)"]
  let M : List PV := [.str "(", .str "0", .str "-", .str "?", .str "7", .str "-3", .str (toString (m ^ 3)), .str ")"]
  have hL : ∀ v ∈ L, Short v := fun v hv => by
    simp only [L, List.mem_cons, List.not_mem_nil, or_false] at hv
    rcases hv with rfl | rfl | rfl | rfl | rfl | rfl | rfl | rfl
    · exact short (by omega)
    · exact short (by decide)
    · exact short (by rw [PySem.Str.length_append]; omega)
    · exact short (by decide)
    · exact short (by decide)
    · exact short (by rw [PySem.Str.length_append]; omega)
    · exact short (by decide)
    · exact short (by decide)
  have hM : ∀ v ∈ M, Short v := fun v hv => by
    simp only [M, List.mem_cons, List.not_mem_nil, or_false] at hv
    rcases hv with rfl | rfl | rfl | rfl | rfl | rfl | rfl | rfl
    · exact short (by decide)
    · exact short (by decide)
    · exact short (by decide)
    · exact short (by decide)
    · exact short (by decide)
    · exact short (by decide)
    · exact short (num_short l3)
    · exact short (by decide)
  let E : Option PV → Option PV → Env := fun a b => [some (.int m), some (.int k), some (.int way), some (.str w), a, b]
  have st : ∀ f : FS, seqS (setS 3 (callF 1 F_L_word [] (consA (opF fdivV (varF 0) (cstF (.int 40))) nilA))) (seqS (setS 4 (lstF (consA (varF 3) (consA (cstF (.str ("a" : Str))) (consA (opF addV (varF 3) (cstF (.str ("(" : Str)))) (consA (cstF (.str (")" : Str))) (consA (cstF (.str (", " : Str))) (consA (opF addV (cstF (.str ("?" : Str))) (varF 3)) (consA (cstF (.str ("x(y, " : Str))) (consA (cstF (.str ("z)" : Str))) nilA)))))))))) f) [some (.int m), some (.int k), some (.int way), none, none, none] s = f (E (some (.ref s.length)) none) (s ++ [.lst L]) := fun f => by
    refine (seqS_nx (e1 := E none none) (s1 := s) (by simp only [E, seqS, ifS, setS, augS, dropS, retS, retN, nxS, bkS, ctS, asgS, subS, R.toS, R.bind, R.of, opF, unF, varF, cstF, chF, isB, asB, andT, orT, notT, andF, orF, notF, ifF, nilA, consA, tupF, lstF, cbF, callF, bmF', truT, truV, nameG, nilG, consG, tupG, List.set_cons_zero, List.set_cons_succ, List.getElem?_cons_zero, List.getElem?_cons_succ, Option.bind_some, Option.bind_none, Option.map_some, Option.map_none, List.length_cons, List.length_nil, List.cons_append, List.nil_append, List.append_nil, if_true, if_false, ite_true, ite_false, Bool.false_eq_true, reduceIte, reduceCtorEq, List.map_cons, List.map_nil, Nat.sub_self, List.replicate_succ, List.replicate_zero, Nat.reduceSub, Nat.reduceAdd, Nat.reduceLT, Nat.reduceLeDiff, Nat.reduceEqDiff, Nat.reduceMul, Nat.reducePow, Int.reduceLT, Int.reduceLE, Int.reduceAdd, Int.reduceMul, Int.reduceSub, Int.reduceNeg, Int.reduceEq, Int.reducePow, Int.reduceMod, Int.reduceDiv, Int.reduceToNat, decide_true, decide_false, and_true, true_and, and_self, Option.some.injEq, fdivV, c40, hw])).trans ?_
    exact seqS_nx (by simp only [E, seqS, ifS, setS, augS, dropS, retS, retN, nxS, bkS, ctS, asgS, subS, R.toS, R.bind, R.of, opF, unF, varF, cstF, chF, isB, asB, andT, orT, notT, andF, orF, notF, ifF, nilA, consA, tupF, lstF, cbF, callF, bmF', truT, truV, nameG, nilG, consG, tupG, List.set_cons_zero, List.set_cons_succ, List.getElem?_cons_zero, List.getElem?_cons_succ, Option.bind_some, Option.bind_none, Option.map_some, Option.map_none, List.length_cons, List.length_nil, List.cons_append, List.nil_append, List.append_nil, if_true, if_false, ite_true, ite_false, Bool.false_eq_true, reduceIte, reduceCtorEq, List.map_cons, List.map_nil, Nat.sub_self, List.replicate_succ, List.replicate_zero, Nat.reduceSub, Nat.reduceAdd, Nat.reduceLT, Nat.reduceLeDiff, Nat.reduceEqDiff, Nat.reduceMul, Nat.reducePow, Int.reduceLT, Int.reduceLE, Int.reduceAdd, Int.reduceMul, Int.reduceSub, Int.reduceNeg, Int.reduceEq, Int.reducePow, Int.reduceMod, Int.reduceDiv, Int.reduceToNat, decide_true, decide_false, and_true, true_and, and_self, Option.some.injEq, addV, sizeLine_eq, e1, e2, a1, a2, L])
  have gl : (s ++ [PO.lst L])[s.length]? = some (.lst L) := getS0
  unfold FL.F_L_piece
  by_cases w1 : way = 1
  · obtain ⟨x, hx, hl⟩ := F_figs (m := m) (k := k) (s := s ++ [.lst L]) h0 h1
    refine ⟨x, run_rt (g := [.lst L]) ?_ rfl, hl⟩
    unfold b_L_piece
    refine (st _).trans (seqS_rt ?_)
    simp only [E, seqS, ifS, setS, augS, dropS, retS, retN, nxS, bkS, ctS, asgS, subS, R.toS, R.bind, R.of, opF, unF, varF, cstF, chF, isB, asB, andT, orT, notT, andF, orF, notF, ifF, nilA, consA, tupF, lstF, cbF, callF, bmF', truT, truV, nameG, nilG, consG, tupG, List.set_cons_zero, List.set_cons_succ, List.getElem?_cons_zero, List.getElem?_cons_succ, Option.bind_some, Option.bind_none, Option.map_some, Option.map_none, List.length_cons, List.length_nil, List.cons_append, List.nil_append, List.append_nil, if_true, if_false, ite_true, ite_false, Bool.false_eq_true, reduceIte, reduceCtorEq, List.map_cons, List.map_nil, Nat.sub_self, List.replicate_succ, List.replicate_zero, Nat.reduceSub, Nat.reduceAdd, Nat.reduceLT, Nat.reduceLeDiff, Nat.reduceEqDiff, Nat.reduceMul, Nat.reducePow, Int.reduceLT, Int.reduceLE, Int.reduceAdd, Int.reduceMul, Int.reduceSub, Int.reduceNeg, Int.reduceEq, Int.reducePow, Int.reduceMod, Int.reduceDiv, Int.reduceToNat, decide_true, decide_false, and_true, true_and, and_self, Option.some.injEq, eqV, neV, eqB, scEq, t1, t2, t3, t4, t5, t6, t7, t8, t9, t10, t11, t12, t13, t14, t15, t16, w1]
    simp only [hx]
  have nx1 : (ifS (isB (opF eqV (varF 2) (cstF (.int 1)))) (retS (callF 2 FL.F_L_figures [] (consA (varF 0) (consA (varF 1) nilA)))) nxS) (E (some (.ref s.length)) none) (s ++ [.lst L]) = .nx (E (some (.ref s.length)) none) (s ++ [.lst L]) := by simp only [E, seqS, ifS, setS, augS, dropS, retS, retN, nxS, bkS, ctS, asgS, subS, R.toS, R.bind, R.of, opF, unF, varF, cstF, chF, isB, asB, andT, orT, notT, andF, orF, notF, ifF, nilA, consA, tupF, lstF, cbF, callF, bmF', truT, truV, nameG, nilG, consG, tupG, List.set_cons_zero, List.set_cons_succ, List.getElem?_cons_zero, List.getElem?_cons_succ, Option.bind_some, Option.bind_none, Option.map_some, Option.map_none, List.length_cons, List.length_nil, List.cons_append, List.nil_append, List.append_nil, if_true, if_false, ite_true, ite_false, Bool.false_eq_true, reduceIte, reduceCtorEq, List.map_cons, List.map_nil, Nat.sub_self, List.replicate_succ, List.replicate_zero, Nat.reduceSub, Nat.reduceAdd, Nat.reduceLT, Nat.reduceLeDiff, Nat.reduceEqDiff, Nat.reduceMul, Nat.reducePow, Int.reduceLT, Int.reduceLE, Int.reduceAdd, Int.reduceMul, Int.reduceSub, Int.reduceNeg, Int.reduceEq, Int.reducePow, Int.reduceMod, Int.reduceDiv, Int.reduceToNat, decide_true, decide_false, and_true, true_and, and_self, Option.some.injEq, eqV, neV, eqB, scEq, t1, t2, t3, t4, t5, t6, t7, t8, t9, t10, t11, t12, t13, t14, t15, t16, w1]
  have z3 := Tm.md m 3 (by decide)
  by_cases w2 : way > 1 ∨ m % 3 > 0
  · have tst : (orT (isB (opF gtV (varF 2) (cstF (.int 1)))) (isB (opF gtV (opF modV (varF 0) (cstF (.int 3))) (cstF (.int 0))))) (E (some (.ref s.length)) none) (s ++ [.lst L]) = .ok true (s ++ [.lst L]) := by
      by_cases q : way > 1
      · simp only [E, seqS, ifS, setS, augS, dropS, retS, retN, nxS, bkS, ctS, asgS, subS, R.toS, R.bind, R.of, opF, unF, varF, cstF, chF, isB, asB, andT, orT, notT, andF, orF, notF, ifF, nilA, consA, tupF, lstF, cbF, callF, bmF', truT, truV, nameG, nilG, consG, tupG, List.set_cons_zero, List.set_cons_succ, List.getElem?_cons_zero, List.getElem?_cons_succ, Option.bind_some, Option.bind_none, Option.map_some, Option.map_none, List.length_cons, List.length_nil, List.cons_append, List.nil_append, List.append_nil, if_true, if_false, ite_true, ite_false, Bool.false_eq_true, reduceIte, reduceCtorEq, List.map_cons, List.map_nil, Nat.sub_self, List.replicate_succ, List.replicate_zero, Nat.reduceSub, Nat.reduceAdd, Nat.reduceLT, Nat.reduceLeDiff, Nat.reduceEqDiff, Nat.reduceMul, Nat.reducePow, Int.reduceLT, Int.reduceLE, Int.reduceAdd, Int.reduceMul, Int.reduceSub, Int.reduceNeg, Int.reduceEq, Int.reducePow, Int.reduceMod, Int.reduceDiv, Int.reduceToNat, decide_true, decide_false, and_true, true_and, and_self, Option.some.injEq, gtV, cmpV, q]
      · have q2 : m % 3 > 0 := by omega
        simp only [E, seqS, ifS, setS, augS, dropS, retS, retN, nxS, bkS, ctS, asgS, subS, R.toS, R.bind, R.of, opF, unF, varF, cstF, chF, isB, asB, andT, orT, notT, andF, orF, notF, ifF, nilA, consA, tupF, lstF, cbF, callF, bmF', truT, truV, nameG, nilG, consG, tupG, List.set_cons_zero, List.set_cons_succ, List.getElem?_cons_zero, List.getElem?_cons_succ, Option.bind_some, Option.bind_none, Option.map_some, Option.map_none, List.length_cons, List.length_nil, List.cons_append, List.nil_append, List.append_nil, if_true, if_false, ite_true, ite_false, Bool.false_eq_true, reduceIte, reduceCtorEq, List.map_cons, List.map_nil, Nat.sub_self, List.replicate_succ, List.replicate_zero, Nat.reduceSub, Nat.reduceAdd, Nat.reduceLT, Nat.reduceLeDiff, Nat.reduceEqDiff, Nat.reduceMul, Nat.reducePow, Int.reduceLT, Int.reduceLE, Int.reduceAdd, Int.reduceMul, Int.reduceSub, Int.reduceNeg, Int.reduceEq, Int.reducePow, Int.reduceMod, Int.reduceDiv, Int.reduceToNat, decide_true, decide_false, and_true, true_and, and_self, Option.some.injEq, gtV, cmpV, modV, c3, q, q2]
    by_cases w3 : way = 2
    · have z8 := Tm.md (m / 4) 8 (by decide)
      obtain ⟨x, hx, hl⟩ := pick (i := m / 4 % 8) hL z8.1 z8.2
      refine ⟨x, run_rt (g := [.lst L]) ?_ rfl, hl⟩
      unfold b_L_piece
      refine (st _).trans ((seqS_nx nx1).trans (seqS_rt ((ifS_t tst).trans ((seqS_nx (e1 := E (some (.ref s.length)) none) (s1 := s ++ [.lst L]) ?_).trans ?_))))
      · simp only [E, seqS, ifS, setS, augS, dropS, retS, retN, nxS, bkS, ctS, asgS, subS, R.toS, R.bind, R.of, opF, unF, varF, cstF, chF, isB, asB, andT, orT, notT, andF, orF, notF, ifF, nilA, consA, tupF, lstF, cbF, callF, bmF', truT, truV, nameG, nilG, consG, tupG, List.set_cons_zero, List.set_cons_succ, List.getElem?_cons_zero, List.getElem?_cons_succ, Option.bind_some, Option.bind_none, Option.map_some, Option.map_none, List.length_cons, List.length_nil, List.cons_append, List.nil_append, List.append_nil, if_true, if_false, ite_true, ite_false, Bool.false_eq_true, reduceIte, reduceCtorEq, List.map_cons, List.map_nil, Nat.sub_self, List.replicate_succ, List.replicate_zero, Nat.reduceSub, Nat.reduceAdd, Nat.reduceLT, Nat.reduceLeDiff, Nat.reduceEqDiff, Nat.reduceMul, Nat.reducePow, Int.reduceLT, Int.reduceLE, Int.reduceAdd, Int.reduceMul, Int.reduceSub, Int.reduceNeg, Int.reduceEq, Int.reducePow, Int.reduceMod, Int.reduceDiv, Int.reduceToNat, decide_true, decide_false, and_true, true_and, and_self, Option.some.injEq, eqV, neV, eqB, scEq, t1, t2, t3, t4, t5, t6, t7, t8, t9, t10, t11, t12, t13, t14, t15, t16, w3, Bool.not_true]
      · have ix : idxV (.ref s.length) (.int (m / 4 % 8)) (s ++ [.lst L]) = some (.str x, s ++ [.lst L]) := by simp only [idxV, seqAt, lstAt, gl, hx, Option.map_some]
        have ln : lenV [.ref s.length] (s ++ [.lst L]) = some (.int 8, s ++ [.lst L]) := by simp only [lenV, gl]; rfl
        have c8 : (0 < (8 : Int) ∧ (8 : Int).natAbs.log2 < 9000) := by decide
        simp only [E, seqS, ifS, setS, augS, dropS, retS, retN, nxS, bkS, ctS, asgS, subS, R.toS, R.bind, R.of, opF, unF, varF, cstF, chF, isB, asB, andT, orT, notT, andF, orF, notF, ifF, nilA, consA, tupF, lstF, cbF, callF, bmF', truT, truV, nameG, nilG, consG, tupG, List.set_cons_zero, List.set_cons_succ, List.getElem?_cons_zero, List.getElem?_cons_succ, Option.bind_some, Option.bind_none, Option.map_some, Option.map_none, List.length_cons, List.length_nil, List.cons_append, List.nil_append, List.append_nil, if_true, if_false, ite_true, ite_false, Bool.false_eq_true, reduceIte, reduceCtorEq, List.map_cons, List.map_nil, Nat.sub_self, List.replicate_succ, List.replicate_zero, Nat.reduceSub, Nat.reduceAdd, Nat.reduceLT, Nat.reduceLeDiff, Nat.reduceEqDiff, Nat.reduceMul, Nat.reducePow, Int.reduceLT, Int.reduceLE, Int.reduceAdd, Int.reduceMul, Int.reduceSub, Int.reduceNeg, Int.reduceEq, Int.reducePow, Int.reduceMod, Int.reduceDiv, Int.reduceToNat, decide_true, decide_false, and_true, true_and, and_self, Option.some.injEq, fdivV, modV, c4, c8, ln, ix]
    · have z16 := Tm.md (m / 4) 16 (by decide)
      obtain ⟨x, hx, hl⟩ := pick (xs := L ++ M) (i := m / 4 % 16) (fun v hv => (List.mem_append.mp hv).elim (hL v) (hM v)) z16.1 z16.2
      let s2 : Store := s ++ [.lst L, .lst M, .lst (L ++ M)]
      have g2 : s2[s.length + 2]? = some (.lst (L ++ M)) := getS
      refine ⟨x, run_rt (g := [.lst L, .lst M, .lst (L ++ M)]) ?_ rfl, hl⟩
      unfold b_L_piece
      refine (st _).trans ((seqS_nx nx1).trans (seqS_rt ((ifS_t tst).trans ((seqS_nx (e1 := E (some (.ref (s.length + 2))) none) (s1 := s2) ?_).trans ?_))))
      · have t2 : (isB (opF neV (varF 2) (cstF (.int 2)))) (E (some (.ref s.length)) none) (s ++ [.lst L]) = .ok true (s ++ [.lst L]) := by simp only [E, seqS, ifS, setS, augS, dropS, retS, retN, nxS, bkS, ctS, asgS, subS, R.toS, R.bind, R.of, opF, unF, varF, cstF, chF, isB, asB, andT, orT, notT, andF, orF, notF, ifF, nilA, consA, tupF, lstF, cbF, callF, bmF', truT, truV, nameG, nilG, consG, tupG, List.set_cons_zero, List.set_cons_succ, List.getElem?_cons_zero, List.getElem?_cons_succ, Option.bind_some, Option.bind_none, Option.map_some, Option.map_none, List.length_cons, List.length_nil, List.cons_append, List.nil_append, List.append_nil, if_true, if_false, ite_true, ite_false, Bool.false_eq_true, reduceIte, reduceCtorEq, List.map_cons, List.map_nil, Nat.sub_self, List.replicate_succ, List.replicate_zero, Nat.reduceSub, Nat.reduceAdd, Nat.reduceLT, Nat.reduceLeDiff, Nat.reduceEqDiff, Nat.reduceMul, Nat.reducePow, Int.reduceLT, Int.reduceLE, Int.reduceAdd, Int.reduceMul, Int.reduceSub, Int.reduceNeg, Int.reduceEq, Int.reducePow, Int.reduceMod, Int.reduceDiv, Int.reduceToNat, decide_true, decide_false, and_true, true_and, and_self, Option.some.injEq, eqV, neV, eqB, scEq, t1, t2, t3, t4, t5, t6, t7, t8, t9, t10, t11, t12, t13, t14, t15, t16, w3, Bool.not_false]
        refine (ifS_t t2).trans ?_
        have lm : (lstF (consA (cstF (.str ("(" : Str))) (consA (cstF (.str ("0" : Str))) (consA (cstF (.str ("-" : Str))) (consA (cstF (.str ("?" : Str))) (consA (cstF (.str ("7" : Str))) (consA (cstF (.str ("-3" : Str))) (consA (cbF strV (consA (opF powV (varF 0) (cstF (.int 3))) nilA)) (consA (cstF (.str (")" : Str))) nilA))))))))) (E (some (.ref s.length)) none) (s ++ [.lst L]) = .ok (.ref (s.length + 1)) (s ++ [.lst L, .lst M]) := by
          simp only [E, seqS, ifS, setS, augS, dropS, retS, retN, nxS, bkS, ctS, asgS, subS, R.toS, R.bind, R.of, opF, unF, varF, cstF, chF, isB, asB, andT, orT, notT, andF, orF, notF, ifF, nilA, consA, tupF, lstF, cbF, callF, bmF', truT, truV, nameG, nilG, consG, tupG, List.set_cons_zero, List.set_cons_succ, List.getElem?_cons_zero, List.getElem?_cons_succ, Option.bind_some, Option.bind_none, Option.map_some, Option.map_none, List.length_cons, List.length_nil, List.cons_append, List.nil_append, List.append_nil, if_true, if_false, ite_true, ite_false, Bool.false_eq_true, reduceIte, reduceCtorEq, List.map_cons, List.map_nil, Nat.sub_self, List.replicate_succ, List.replicate_zero, Nat.reduceSub, Nat.reduceAdd, Nat.reduceLT, Nat.reduceLeDiff, Nat.reduceEqDiff, Nat.reduceMul, Nat.reducePow, Int.reduceLT, Int.reduceLE, Int.reduceAdd, Int.reduceMul, Int.reduceSub, Int.reduceNeg, Int.reduceEq, Int.reducePow, Int.reduceMod, Int.reduceDiv, Int.reduceToNat, decide_true, decide_false, and_true, true_and, and_self, Option.some.injEq, strV, powV, p3, l3, sizeLine_eq, M, appS, lenS]
        have v4 : varF 4 (E (some (.ref s.length)) none) (s ++ [.lst L]) = .ok (.ref s.length) (s ++ [.lst L]) := rfl
        have ga : (s ++ [PO.lst L, .lst M])[s.length]? = some (.lst L) := getS0
        have gb : (s ++ [PO.lst L, .lst M])[s.length + 1]? = some (.lst M) := getS
        have ad : addV (.ref s.length) (.ref (s.length + 1)) (s ++ [.lst L, .lst M]) = some (.ref (s.length + 2), s2) := by
          have l16 : L.length + M.length ≤ 16777216 := by show (8 : Nat) + 8 ≤ 16777216; omega
          simp only [addV, ga, gb, sizeLine_eq, l16, if_true, appS, lenS]
          rfl
        unfold setS
        rw [op_l v4, lm, bind_ok, ad]
        rfl
      · have ix : idxV (.ref (s.length + 2)) (.int (m / 4 % 16)) s2 = some (.str x, s2) := by simp only [idxV, seqAt, lstAt, g2, hx, Option.map_some]
        have ln : lenV [.ref (s.length + 2)] s2 = some (.int 16, s2) := by simp only [lenV, g2]; rfl
        have c8 : (0 < (16 : Int) ∧ (16 : Int).natAbs.log2 < 9000) := by decide
        simp only [E, seqS, ifS, setS, augS, dropS, retS, retN, nxS, bkS, ctS, asgS, subS, R.toS, R.bind, R.of, opF, unF, varF, cstF, chF, isB, asB, andT, orT, notT, andF, orF, notF, ifF, nilA, consA, tupF, lstF, cbF, callF, bmF', truT, truV, nameG, nilG, consG, tupG, List.set_cons_zero, List.set_cons_succ, List.getElem?_cons_zero, List.getElem?_cons_succ, Option.bind_some, Option.bind_none, Option.map_some, Option.map_none, List.length_cons, List.length_nil, List.cons_append, List.nil_append, List.append_nil, if_true, if_false, ite_true, ite_false, Bool.false_eq_true, reduceIte, reduceCtorEq, List.map_cons, List.map_nil, Nat.sub_self, List.replicate_succ, List.replicate_zero, Nat.reduceSub, Nat.reduceAdd, Nat.reduceLT, Nat.reduceLeDiff, Nat.reduceEqDiff, Nat.reduceMul, Nat.reducePow, Int.reduceLT, Int.reduceLE, Int.reduceAdd, Int.reduceMul, Int.reduceSub, Int.reduceNeg, Int.reduceEq, Int.reducePow, Int.reduceMod, Int.reduceDiv, Int.reduceToNat, decide_true, decide_false, and_true, true_and, and_self, Option.some.injEq, fdivV, modV, c4, c8, ln, ix]
        rfl
  · have tst : (orT (isB (opF gtV (varF 2) (cstF (.int 1)))) (isB (opF gtV (opF modV (varF 0) (cstF (.int 3))) (cstF (.int 0))))) (E (some (.ref s.length)) none) (s ++ [.lst L]) = .ok false (s ++ [.lst L]) := by
      have q : ¬ way > 1 := fun z => w2 (.inl z)
      have q2 : ¬ m % 3 > 0 := fun z => w2 (.inr z)
      simp only [E, seqS, ifS, setS, augS, dropS, retS, retN, nxS, bkS, ctS, asgS, subS, R.toS, R.bind, R.of, opF, unF, varF, cstF, chF, isB, asB, andT, orT, notT, andF, orF, notF, ifF, nilA, consA, tupF, lstF, cbF, callF, bmF', truT, truV, nameG, nilG, consG, tupG, List.set_cons_zero, List.set_cons_succ, List.getElem?_cons_zero, List.getElem?_cons_succ, Option.bind_some, Option.bind_none, Option.map_some, Option.map_none, List.length_cons, List.length_nil, List.cons_append, List.nil_append, List.append_nil, if_true, if_false, ite_true, ite_false, Bool.false_eq_true, reduceIte, reduceCtorEq, List.map_cons, List.map_nil, Nat.sub_self, List.replicate_succ, List.replicate_zero, Nat.reduceSub, Nat.reduceAdd, Nat.reduceLT, Nat.reduceLeDiff, Nat.reduceEqDiff, Nat.reduceMul, Nat.reducePow, Int.reduceLT, Int.reduceLE, Int.reduceAdd, Int.reduceMul, Int.reduceSub, Int.reduceNeg, Int.reduceEq, Int.reducePow, Int.reduceMod, Int.reduceDiv, Int.reduceToNat, decide_true, decide_false, and_true, true_and, and_self, Option.some.injEq, gtV, cmpV, modV, c3, q, q2]
    obtain ⟨A, hA⟩ : ∃ A, A = (" !\"#$&'()*+,-./0123456789:;<=>?@ABCDEFGHIJKLMNOPQRSTUVWXYZ[\\]^_`" : Str) := ⟨_, rfl⟩
    obtain ⟨B, hB⟩ : ∃ B, B = ("abcdefghijklmnopqrstuvwxyz{|}~" : Str) := ⟨_, rfl⟩
    have hl : A.length + B.length ≤ 16777216 := by rw [hA, hB]; decide +kernel
    have n0 : 0 < (A ++ B).length := by rw [hA, hB]; decide +kernel
    have n1 : (A ++ B).length ≤ 16777216 := by rw [PySem.Str.length_append]; exact hl
    obtain ⟨n, hn⟩ : ∃ n, n = (A ++ B).length := ⟨_, rfl⟩
    have zn := Tm.md (m / 4) (n : Int) (by omega)
    have cn : (0 < (n : Int) ∧ (n : Int).natAbs.log2 < 9000) := ⟨by omega, by
      have := log2_lt (n := (n : Int).natAbs) (k := 24) (by omega)
      omega⟩
    have li : (A ++ B).cps.toList.length = n := by rw [hn]; exact Array.length_toList
    obtain ⟨c, hc⟩ : ∃ c, atI (A ++ B).cps.toList (m / 4 % (n : Int)) = some c := ⟨_, atI_lt zn.1 (by rw [li]; exact zn.2)⟩
    refine ⟨⟨#[c]⟩, run_rt (g := [.lst L]) ?_ rfl, by show (1 : Nat) ≤ 2000; decide⟩
    unfold b_L_piece
    refine (st _).trans ((seqS_nx nx1).trans ((seqS_nx ((ifS_f tst).trans rfl)).trans ?_))
    rw [← hA, ← hB]
    refine (seqS_nx (e1 := E (some (.ref s.length)) (some (.str A))) (s1 := s ++ [.lst L]) (by simp only [E, seqS, ifS, setS, augS, dropS, retS, retN, nxS, bkS, ctS, asgS, subS, R.toS, R.bind, R.of, opF, unF, varF, cstF, chF, isB, asB, andT, orT, notT, andF, orF, notF, ifF, nilA, consA, tupF, lstF, cbF, callF, bmF', truT, truV, nameG, nilG, consG, tupG, List.set_cons_zero, List.set_cons_succ, List.getElem?_cons_zero, List.getElem?_cons_succ, Option.bind_some, Option.bind_none, Option.map_some, Option.map_none, List.length_cons, List.length_nil, List.cons_append, List.nil_append, List.append_nil, if_true, if_false, ite_true, ite_false, Bool.false_eq_true, reduceIte, reduceCtorEq, List.map_cons, List.map_nil, Nat.sub_self, List.replicate_succ, List.replicate_zero, Nat.reduceSub, Nat.reduceAdd, Nat.reduceLT, Nat.reduceLeDiff, Nat.reduceEqDiff, Nat.reduceMul, Nat.reducePow, Int.reduceLT, Int.reduceLE, Int.reduceAdd, Int.reduceMul, Int.reduceSub, Int.reduceNeg, Int.reduceEq, Int.reducePow, Int.reduceMod, Int.reduceDiv, Int.reduceToNat, decide_true, decide_false, and_true, true_and, and_self, Option.some.injEq])).trans ?_
    refine (seqS_nx (e1 := E (some (.ref s.length)) (some (.str (A ++ B)))) (s1 := s ++ [.lst L]) (by simp only [E, seqS, ifS, setS, augS, dropS, retS, retN, nxS, bkS, ctS, asgS, subS, R.toS, R.bind, R.of, opF, unF, varF, cstF, chF, isB, asB, andT, orT, notT, andF, orF, notF, ifF, nilA, consA, tupF, lstF, cbF, callF, bmF', truT, truV, nameG, nilG, consG, tupG, List.set_cons_zero, List.set_cons_succ, List.getElem?_cons_zero, List.getElem?_cons_succ, Option.bind_some, Option.bind_none, Option.map_some, Option.map_none, List.length_cons, List.length_nil, List.cons_append, List.nil_append, List.append_nil, if_true, if_false, ite_true, ite_false, Bool.false_eq_true, reduceIte, reduceCtorEq, List.map_cons, List.map_nil, Nat.sub_self, List.replicate_succ, List.replicate_zero, Nat.reduceSub, Nat.reduceAdd, Nat.reduceLT, Nat.reduceLeDiff, Nat.reduceEqDiff, Nat.reduceMul, Nat.reducePow, Int.reduceLT, Int.reduceLE, Int.reduceAdd, Int.reduceMul, Int.reduceSub, Int.reduceNeg, Int.reduceEq, Int.reducePow, Int.reduceMod, Int.reduceDiv, Int.reduceToNat, decide_true, decide_false, and_true, true_and, and_self, Option.some.injEq, addV, sizeLine_eq, hl])).trans ?_
    have ln : lenV [.str (A ++ B)] (s ++ [.lst L]) = some (.int (n : Int), s ++ [.lst L]) := by simp only [lenV, sizeLine_eq, ← hn, show n ≤ 16777216 by omega, if_true]
    have ix : idxV (.str (A ++ B)) (.int (m / 4 % (n : Int))) (s ++ [.lst L]) = some (.str ⟨#[c]⟩, s ++ [.lst L]) := by simp only [idxV, sizeLine_eq, ← hn, show n ≤ 16777216 by omega, if_true, hc, Option.map_some]
    simp only [E, seqS, ifS, setS, augS, dropS, retS, retN, nxS, bkS, ctS, asgS, subS, R.toS, R.bind, R.of, opF, unF, varF, cstF, chF, isB, asB, andT, orT, notT, andF, orF, notF, ifF, nilA, consA, tupF, lstF, cbF, callF, bmF', truT, truV, nameG, nilG, consG, tupG, List.set_cons_zero, List.set_cons_succ, List.getElem?_cons_zero, List.getElem?_cons_succ, Option.bind_some, Option.bind_none, Option.map_some, Option.map_none, List.length_cons, List.length_nil, List.cons_append, List.nil_append, List.append_nil, if_true, if_false, ite_true, ite_false, Bool.false_eq_true, reduceIte, reduceCtorEq, List.map_cons, List.map_nil, Nat.sub_self, List.replicate_succ, List.replicate_zero, Nat.reduceSub, Nat.reduceAdd, Nat.reduceLT, Nat.reduceLeDiff, Nat.reduceEqDiff, Nat.reduceMul, Nat.reducePow, Int.reduceLT, Int.reduceLE, Int.reduceAdd, Int.reduceMul, Int.reduceSub, Int.reduceNeg, Int.reduceEq, Int.reducePow, Int.reduceMod, Int.reduceDiv, Int.reduceToNat, decide_true, decide_false, and_true, true_and, and_self, Option.some.injEq, fdivV, modV, c4, cn, ln, ix]
/-! ### the law -/
theorem non_pv (t : Tr) (s : Store) : isNonV t.pv .non s = some (.bl false, s) := by cases t <;> rfl
theorem ne_told {s : Store} : neV told told s = some (.bl false, s) := by
  simp [neV, eqB, told, scEq, toD, toDs, PyData.eqv, PyData.eqvAll]
theorem line_ok {l : List Nat} (hl : l.length ≤ 200000) {a b d : Option PV} {h : Bool} {k c : Option PV} {s : Store} : ∃ o, b_law_k07_s1 [a, b, d, some (.str (S l)), some (.bl h), k, c, o] s = .nx [a, b, d, some (.str (S l)), some (.bl h), k, c, some (askV h l)] s ∧ ∀ o', b_law_k07_s1 [a, b, d, some (.str (S l)), some (.bl h), k, c, o'] s = .nx [a, b, d, some (.str (S l)), some (.bl h), k, c, some (askV h l)] s := by
  have key : ∀ o', b_law_k07_s1 [a, b, d, some (.str (S l)), some (.bl h), k, c, o'] s = .nx [a, b, d, some (.str (S l)), some (.bl h), k, c, some (askV h l)] s := fun o' => by
    have ha := F_asked (h := h) (s := s) hl
    unfold b_law_k07_s1
    refine (seqS_nx (e1 := [a, b, d, some (.str (S l)), some (.bl h), k, c, some (askV h l)]) (s1 := s) (by simp only [seqS, ifS, setS, augS, dropS, retS, retN, nxS, bkS, ctS, asgS, subS, R.toS, R.bind, R.of, opF, unF, varF, cstF, chF, isB, asB, andT, orT, notT, andF, orF, notF, ifF, nilA, consA, tupF, lstF, cbF, callF, bmF', truT, truV, nameG, nilG, consG, tupG, List.set_cons_zero, List.set_cons_succ, List.getElem?_cons_zero, List.getElem?_cons_succ, Option.bind_some, Option.bind_none, Option.map_some, Option.map_none, List.length_cons, List.length_nil, List.cons_append, List.nil_append, List.append_nil, if_true, if_false, ite_true, ite_false, Bool.false_eq_true, reduceIte, reduceCtorEq, List.map_cons, List.map_nil, Nat.sub_self, List.replicate_succ, List.replicate_zero, Nat.reduceSub, Nat.reduceAdd, Nat.reduceLT, Nat.reduceLeDiff, Nat.reduceEqDiff, Nat.reduceMul, Nat.reducePow, Int.reduceLT, Int.reduceLE, Int.reduceAdd, Int.reduceMul, Int.reduceSub, Int.reduceNeg, Int.reduceEq, Int.reducePow, Int.reduceMod, Int.reduceDiv, Int.reduceToNat, decide_true, decide_false, and_true, true_and, and_self, Option.some.injEq, ha])).trans ?_
    cases w : pWhole (!h) l with
    | none =>
      rw [askV_none w]
      have i0 : isNonV .non .non s = some (.bl true, s) := rfl
      simp only [seqS, ifS, setS, augS, dropS, retS, retN, nxS, bkS, ctS, asgS, subS, R.toS, R.bind, R.of, opF, unF, varF, cstF, chF, isB, asB, andT, orT, notT, andF, orF, notF, ifF, nilA, consA, tupF, lstF, cbF, callF, bmF', truT, truV, nameG, nilG, consG, tupG, List.set_cons_zero, List.set_cons_succ, List.getElem?_cons_zero, List.getElem?_cons_succ, Option.bind_some, Option.bind_none, Option.map_some, Option.map_none, List.length_cons, List.length_nil, List.cons_append, List.nil_append, List.append_nil, if_true, if_false, ite_true, ite_false, Bool.false_eq_true, reduceIte, reduceCtorEq, List.map_cons, List.map_nil, Nat.sub_self, List.replicate_succ, List.replicate_zero, Nat.reduceSub, Nat.reduceAdd, Nat.reduceLT, Nat.reduceLeDiff, Nat.reduceEqDiff, Nat.reduceMul, Nat.reducePow, Int.reduceLT, Int.reduceLE, Int.reduceAdd, Int.reduceMul, Int.reduceSub, Int.reduceNeg, Int.reduceEq, Int.reducePow, Int.reduceMod, Int.reduceDiv, Int.reduceToNat, decide_true, decide_false, and_true, true_and, and_self, Option.some.injEq, idxV, at0, at1, at2, at3, at4, at5, seqAt, lstAt, lenV, isiV, typV, kb1, kb2, kb3, kb4, kb5, kb6, kb7, kb8, kb9, kb10, kb11, i0, sizeLine_eq, ne_told]
    | some t =>
      rw [askV_some w]
      obtain ⟨du, pp, sh⟩ := pWhole_spec w
      have fo := F_form (holed := h) 64 t 1 s (by have := du.depth; omega) (by have := du.depth; omega) du.fit du.ok (by
        cases h with
        | true => exact .inl rfl
        | false => exact .inr (du.bare rfl))
      have e1 : ((1 : Nat) : Int) = 1 := rfl
      rw [e1] at fo
      have sw := F_shown_ok 64 t s (by have := du.depth; omega) du.fit (by omega)
      rw [sh] at sw
      have p1 : ¬ ((t.parts : Nat) : Int) > 120 := by omega
      have i1 : notNonV .non .non s = some (.bl false, s) := rfl
      have n1 : decide (l = l) = true := decide_eq_true rfl
      simp only [seqS, ifS, setS, augS, dropS, retS, retN, nxS, bkS, ctS, asgS, subS, R.toS, R.bind, R.of, opF, unF, varF, cstF, chF, isB, asB, andT, orT, notT, andF, orF, notF, ifF, nilA, consA, tupF, lstF, cbF, callF, bmF', truT, truV, nameG, nilG, consG, tupG, List.set_cons_zero, List.set_cons_succ, List.getElem?_cons_zero, List.getElem?_cons_succ, Option.bind_some, Option.bind_none, Option.map_some, Option.map_none, List.length_cons, List.length_nil, List.cons_append, List.nil_append, List.append_nil, if_true, if_false, ite_true, ite_false, Bool.false_eq_true, reduceIte, reduceCtorEq, List.map_cons, List.map_nil, Nat.sub_self, List.replicate_succ, List.replicate_zero, Nat.reduceSub, Nat.reduceAdd, Nat.reduceLT, Nat.reduceLeDiff, Nat.reduceEqDiff, Nat.reduceMul, Nat.reducePow, Int.reduceLT, Int.reduceLE, Int.reduceAdd, Int.reduceMul, Int.reduceSub, Int.reduceNeg, Int.reduceEq, Int.reducePow, Int.reduceMod, Int.reduceDiv, Int.reduceToNat, decide_true, decide_false, and_true, true_and, and_self, Option.some.injEq, idxV, at0, at1, at2, at3, at4, at5, seqAt, lstAt, lenV, isiV, typV, kb1, kb2, kb3, kb4, kb5, kb6, kb7, kb8, kb9, kb10, kb11, non_pv, i1, fo, gtV, cmpV, p1, sw, ne_S, n1, Bool.not_true]
  exact ⟨none, key none, key⟩
theorem body_ok {ns : List Int} (hns : ns.length ≤ 63) : ∃ g, b_law_k07 [some (.frz (ns.map PV.int)), none, none, none, none, none, none, none] [] = .rt (.bl true) g := by
  have hc : ∀ s, F_L_cell_at [.frz (ns.map PV.int), .int 0] s = .ok (.int (cellAt ns 0)) s := fun s => F_cell (k := 0)
  have hm : ∀ s, F_L_mixed [.int (cellAt ns 0), .int 107] s = .ok (.int (mixed (cellAt ns 0) 107)) s := fun s => F_mixed (by decide) (by decide)
  have qm := mixed_lt (cellAt ns 0) 107
  generalize mixed (cellAt ns 0) 107 = m at hm qm
  have c4 : (0 < (4 : Int) ∧ (4 : Int).natAbs.log2 < 9000) := by decide
  have c2 : (0 < (2 : Int) ∧ (2 : Int).natAbs.log2 < 9000) := by decide
  have c8 : (0 < (8 : Int) ∧ (8 : Int).natAbs.log2 < 9000) := by decide
  have c6 : (0 < (6 : Int) ∧ (6 : Int).natAbs.log2 < 9000) := by decide
  let E : Option PV → Option PV → Option PV → Option PV → Option PV → Option PV → Env := fun b c d e f g => [some (.frz (ns.map PV.int)), some (.int m), b, c, d, e, f, g]
  obtain ⟨many, st2⟩ : ∃ many : Int, (ifS (isB (opF eqV (opF modV (opF fdivV (varF 1) (cstF (.int 4))) (cstF (.int 2))) (cstF (.int 1)))) (setS 2 (opF addV (cstF (.int 1)) (opF modV (opF fdivV (varF 1) (cstF (.int 8))) (cstF (.int 6))))) nxS) (E (some (.int 80)) none none none none none) [] = .nx (E (some (.int many)) none none none none none) [] := by
    by_cases q : m / 4 % 2 = 1
    · exact ⟨1 + m / 8 % 6, by simp only [E, seqS, ifS, setS, augS, dropS, retS, retN, nxS, bkS, ctS, asgS, subS, R.toS, R.bind, R.of, opF, unF, varF, cstF, chF, isB, asB, andT, orT, notT, andF, orF, notF, ifF, nilA, consA, tupF, lstF, cbF, callF, bmF', truT, truV, nameG, nilG, consG, tupG, List.set_cons_zero, List.set_cons_succ, List.getElem?_cons_zero, List.getElem?_cons_succ, Option.bind_some, Option.bind_none, Option.map_some, Option.map_none, List.length_cons, List.length_nil, List.cons_append, List.nil_append, List.append_nil, if_true, if_false, ite_true, ite_false, Bool.false_eq_true, reduceIte, reduceCtorEq, List.map_cons, List.map_nil, Nat.sub_self, List.replicate_succ, List.replicate_zero, Nat.reduceSub, Nat.reduceAdd, Nat.reduceLT, Nat.reduceLeDiff, Nat.reduceEqDiff, Nat.reduceMul, Nat.reducePow, Int.reduceLT, Int.reduceLE, Int.reduceAdd, Int.reduceMul, Int.reduceSub, Int.reduceNeg, Int.reduceEq, Int.reducePow, Int.reduceMod, Int.reduceDiv, Int.reduceToNat, decide_true, decide_false, and_true, true_and, and_self, Option.some.injEq, eqV, neV, eqB, scEq, t1, t2, t3, t4, t5, t6, t7, t8, t9, t10, t11, t12, t13, t14, t15, t16, fdivV, modV, addV, c4, c2, c8, c6, q]⟩
    · exact ⟨80, by simp only [E, seqS, ifS, setS, augS, dropS, retS, retN, nxS, bkS, ctS, asgS, subS, R.toS, R.bind, R.of, opF, unF, varF, cstF, chF, isB, asB, andT, orT, notT, andF, orF, notF, ifF, nilA, consA, tupF, lstF, cbF, callF, bmF', truT, truV, nameG, nilG, consG, tupG, List.set_cons_zero, List.set_cons_succ, List.getElem?_cons_zero, List.getElem?_cons_succ, Option.bind_some, Option.bind_none, Option.map_some, Option.map_none, List.length_cons, List.length_nil, List.cons_append, List.nil_append, List.append_nil, if_true, if_false, ite_true, ite_false, Bool.false_eq_true, reduceIte, reduceCtorEq, List.map_cons, List.map_nil, Nat.sub_self, List.replicate_succ, List.replicate_zero, Nat.reduceSub, Nat.reduceAdd, Nat.reduceLT, Nat.reduceLeDiff, Nat.reduceEqDiff, Nat.reduceMul, Nat.reducePow, Int.reduceLT, Int.reduceLE, Int.reduceAdd, Int.reduceMul, Int.reduceSub, Int.reduceNeg, Int.reduceEq, Int.reducePow, Int.reduceMod, Int.reduceDiv, Int.reduceToNat, decide_true, decide_false, and_true, true_and, and_self, Option.some.injEq, eqV, neV, eqB, scEq, t1, t2, t3, t4, t5, t6, t7, t8, t9, t10, t11, t12, t13, t14, t15, t16, fdivV, modV, addV, c4, c2, c8, c6, q]⟩
  obtain ⟨cs, hcs, hl⟩ : ∃ cs : List Int, cutP (ns.map PV.int) none (some many) = cs.map PV.int ∧ cs.length ≤ 63 := by
    unfold cutP
    rw [← List.map_drop, ← List.map_take]
    exact ⟨_, rfl, by rw [List.length_take, List.length_drop]; omega⟩
  let C : PO := .lst (cs.map PV.int)
  obtain ⟨e', s', h1, ⟨x, k, c, he, hx⟩, hs⟩ := forL_inv (gd := [(0, C)]) (g := tupG 2 (consG (nameG 5) (consG (nameG 6) nilG))) (b := b_law_k07_s2) (xs := enumL (cs.map PV.int) 0)
    (fun i e st => (∃ (x : Str) (k c : Option PV), e = E (some (.int many)) (some (.str x)) none k c none ∧ x.length ≤ 2000 * i) ∧ st = [C])
    (e := E (some (.int many)) (some (.str "")) none none none none) (st := [C])
    ⟨⟨"", none, none, rfl, by decide⟩, rfl⟩
    (fun i v e st hv ⟨⟨x, k, c, he, hx⟩, hs⟩ => by
      subst he hs
      obtain ⟨y, hy, rfl⟩ := enum_at hv
      rw [List.getElem?_map] at hy
      obtain ⟨n, hn, rfl⟩ := Option.map_eq_some_iff.mp hy
      have hi : i < cs.length := (List.getElem?_eq_some_iff.mp hn).1
      refine ⟨gd1 rfl, _, rfl, ?_⟩
      have hm' := F_mixed (c := n) (k := ((0 + i : Nat) : Int)) (st := [C]) (by omega) (by omega)
      have qm' := mixed_lt n ((0 + i : Nat) : Int)
      obtain ⟨y, hy, yl⟩ := F_piece (m := mixed n ((0 + i : Nat) : Int)) (k := ((0 + i : Nat) : Int)) (way := m % 4) (s := [C]) qm'.1 (by omega)
      have al : x.length + y.length ≤ 16777216 := by omega
      refine ⟨E (some (.int many)) (some (.str (x ++ y))) none (some (.int ((0 + i : Nat) : Int))) (some (.int n)) none, [C], ?_, ⟨x ++ y, _, _, rfl, by rw [PySem.Str.length_append]; omega⟩, rfl⟩
      simp only [E, b_law_k07_s2, seqS, ifS, setS, augS, dropS, retS, retN, nxS, bkS, ctS, asgS, subS, R.toS, R.bind, R.of, opF, unF, varF, cstF, chF, isB, asB, andT, orT, notT, andF, orF, notF, ifF, nilA, consA, tupF, lstF, cbF, callF, bmF', truT, truV, nameG, nilG, consG, tupG, List.set_cons_zero, List.set_cons_succ, List.getElem?_cons_zero, List.getElem?_cons_succ, Option.bind_some, Option.bind_none, Option.map_some, Option.map_none, List.length_cons, List.length_nil, List.cons_append, List.nil_append, List.append_nil, if_true, if_false, ite_true, ite_false, Bool.false_eq_true, reduceIte, reduceCtorEq, List.map_cons, List.map_nil, Nat.sub_self, List.replicate_succ, List.replicate_zero, Nat.reduceSub, Nat.reduceAdd, Nat.reduceLT, Nat.reduceLeDiff, Nat.reduceEqDiff, Nat.reduceMul, Nat.reducePow, Int.reduceLT, Int.reduceLE, Int.reduceAdd, Int.reduceMul, Int.reduceSub, Int.reduceNeg, Int.reduceEq, Int.reducePow, Int.reduceMod, Int.reduceDiv, Int.reduceToNat, decide_true, decide_false, and_true, true_and, and_self, Option.some.injEq, hm', modV, c4, hy, addV, sizeLine_eq, al])
    (fun e st ⟨_, h⟩ => by subst h; exact gd1 rfl)
  subst he hs
  have el : (enumL (cs.map PV.int) 0).length = cs.length := by
    have : ∀ (xs : List PV) (n : Nat), (enumL xs n).length = xs.length := fun xs => by
      induction xs with
      | nil => intro n; rfl
      | cons a r ih => intro n; simp only [enumL, List.length_cons, ih]
    rw [this, List.length_map]
  rw [el] at hx
  rw [S_of x] at h1
  have xl : x.cps.toList.length ≤ 200000 := by
    have : x.cps.toList.length = x.length := Array.length_toList
    omega
  generalize x.cps.toList = l at h1 xl
  have hi : enumI (consA (sliF (varF 0) noO (someO (varF 2))) nilA) (E (some (.int many)) (some (.str "")) none none none none) [] = .ok ⟨enumL (cs.map PV.int) 0, [(0, C)]⟩ [C] := by
    simp only [E, enumI, sliF, noO, someO, asI, slV, seqS, ifS, setS, augS, dropS, retS, retN, nxS, bkS, ctS, asgS, subS, R.toS, R.bind, R.of, opF, unF, varF, cstF, chF, isB, asB, andT, orT, notT, andF, orF, notF, ifF, nilA, consA, tupF, lstF, cbF, callF, bmF', truT, truV, nameG, nilG, consG, tupG, List.set_cons_zero, List.set_cons_succ, List.getElem?_cons_zero, List.getElem?_cons_succ, Option.bind_some, Option.bind_none, Option.map_some, Option.map_none, List.length_cons, List.length_nil, List.cons_append, List.nil_append, List.append_nil, if_true, if_false, ite_true, ite_false, Bool.false_eq_true, reduceIte, reduceCtorEq, List.map_cons, List.map_nil, Nat.sub_self, List.replicate_succ, List.replicate_zero, Nat.reduceSub, Nat.reduceAdd, Nat.reduceLT, Nat.reduceLeDiff, Nat.reduceEqDiff, Nat.reduceMul, Nat.reducePow, Int.reduceLT, Int.reduceLE, Int.reduceAdd, Int.reduceMul, Int.reduceSub, Int.reduceNeg, Int.reduceEq, Int.reducePow, Int.reduceMod, Int.reduceDiv, Int.reduceToNat, decide_true, decide_false, and_true, true_and, and_self, Option.some.injEq, lstAt, hcs, gdOf]
    rfl
  obtain ⟨e2, h2, o1, o2, he2⟩ := for_pass (fi := seqI (tupF (consA (cstF (.bl false)) (consA (cstF (.bl true)) nilA)))) (g := nameG 4) (b := b_law_k07_s1) (e := E (some (.int many)) (some (.str (S l))) none k c none) (st := [C]) (s1 := [C]) (xs := [.bl false, .bl true]) (gd := []) (fun e => ∃ o1 o2, e = E (some (.int many)) (some (.str (S l))) o1 k c o2)
    (by simp only [seqI, seqS, ifS, setS, augS, dropS, retS, retN, nxS, bkS, ctS, asgS, subS, R.toS, R.bind, R.of, opF, unF, varF, cstF, chF, isB, asB, andT, orT, notT, andF, orF, notF, ifF, nilA, consA, tupF, lstF, cbF, callF, bmF', truT, truV, nameG, nilG, consG, tupG, List.set_cons_zero, List.set_cons_succ, List.getElem?_cons_zero, List.getElem?_cons_succ, Option.bind_some, Option.bind_none, Option.map_some, Option.map_none, List.length_cons, List.length_nil, List.cons_append, List.nil_append, List.append_nil, if_true, if_false, ite_true, ite_false, Bool.false_eq_true, reduceIte, reduceCtorEq, List.map_cons, List.map_nil, Nat.sub_self, List.replicate_succ, List.replicate_zero, Nat.reduceSub, Nat.reduceAdd, Nat.reduceLT, Nat.reduceLeDiff, Nat.reduceEqDiff, Nat.reduceMul, Nat.reducePow, Int.reduceLT, Int.reduceLE, Int.reduceAdd, Int.reduceMul, Int.reduceSub, Int.reduceNeg, Int.reduceEq, Int.reducePow, Int.reduceMod, Int.reduceDiv, Int.reduceToNat, decide_true, decide_false, and_true, true_and, and_self, Option.some.injEq, sizeLine_eq, seqAt, gdOf]) (gd_nil _) ⟨none, none, rfl⟩
    (fun i v e hv ⟨o1, o2, he⟩ => by
      subst he
      obtain ⟨h, rfl⟩ : ∃ h, v = .bl h := by
        match i, hv with
        | 0, hv => cases hv; exact ⟨_, rfl⟩
        | 1, hv => cases hv; exact ⟨_, rfl⟩
      obtain ⟨_, _, key⟩ := line_ok (l := l) xl (a := some (.frz (ns.map PV.int))) (b := some (.int m)) (d := some (.int many)) (h := h) (k := k) (c := c) (s := [C])
      exact ⟨_, rfl, _, key o2, _, _, rfl⟩)
  subst he2
  refine ⟨[C], ?_⟩
  unfold b_law_k07
  refine (seqS_nx (e1 := E none none none none none none) (s1 := []) (by simp only [seqS, ifS, setS, augS, dropS, retS, retN, nxS, bkS, ctS, asgS, subS, R.toS, R.bind, R.of, opF, unF, varF, cstF, chF, isB, asB, andT, orT, notT, andF, orF, notF, ifF, nilA, consA, tupF, lstF, cbF, callF, bmF', truT, truV, nameG, nilG, consG, tupG, List.set_cons_zero, List.set_cons_succ, List.getElem?_cons_zero, List.getElem?_cons_succ, Option.bind_some, Option.bind_none, Option.map_some, Option.map_none, List.length_cons, List.length_nil, List.cons_append, List.nil_append, List.append_nil, if_true, if_false, ite_true, ite_false, Bool.false_eq_true, reduceIte, reduceCtorEq, List.map_cons, List.map_nil, Nat.sub_self, List.replicate_succ, List.replicate_zero, Nat.reduceSub, Nat.reduceAdd, Nat.reduceLT, Nat.reduceLeDiff, Nat.reduceEqDiff, Nat.reduceMul, Nat.reducePow, Int.reduceLT, Int.reduceLE, Int.reduceAdd, Int.reduceMul, Int.reduceSub, Int.reduceNeg, Int.reduceEq, Int.reducePow, Int.reduceMod, Int.reduceDiv, Int.reduceToNat, decide_true, decide_false, and_true, true_and, and_self, Option.some.injEq, hc, hm]; rfl)).trans ?_
  refine (seqS_nx (e1 := E (some (.int 80)) none none none none none) (s1 := []) (by simp only [E, seqS, ifS, setS, augS, dropS, retS, retN, nxS, bkS, ctS, asgS, subS, R.toS, R.bind, R.of, opF, unF, varF, cstF, chF, isB, asB, andT, orT, notT, andF, orF, notF, ifF, nilA, consA, tupF, lstF, cbF, callF, bmF', truT, truV, nameG, nilG, consG, tupG, List.set_cons_zero, List.set_cons_succ, List.getElem?_cons_zero, List.getElem?_cons_succ, Option.bind_some, Option.bind_none, Option.map_some, Option.map_none, List.length_cons, List.length_nil, List.cons_append, List.nil_append, List.append_nil, if_true, if_false, ite_true, ite_false, Bool.false_eq_true, reduceIte, reduceCtorEq, List.map_cons, List.map_nil, Nat.sub_self, List.replicate_succ, List.replicate_zero, Nat.reduceSub, Nat.reduceAdd, Nat.reduceLT, Nat.reduceLeDiff, Nat.reduceEqDiff, Nat.reduceMul, Nat.reducePow, Int.reduceLT, Int.reduceLE, Int.reduceAdd, Int.reduceMul, Int.reduceSub, Int.reduceNeg, Int.reduceEq, Int.reducePow, Int.reduceMod, Int.reduceDiv, Int.reduceToNat, decide_true, decide_false, and_true, true_and, and_self, Option.some.injEq])).trans ?_
  refine (seqS_nx st2).trans ?_
  refine (seqS_nx (e1 := E (some (.int many)) (some (.str "")) none none none none) (s1 := []) (by simp only [E, seqS, ifS, setS, augS, dropS, retS, retN, nxS, bkS, ctS, asgS, subS, R.toS, R.bind, R.of, opF, unF, varF, cstF, chF, isB, asB, andT, orT, notT, andF, orF, notF, ifF, nilA, consA, tupF, lstF, cbF, callF, bmF', truT, truV, nameG, nilG, consG, tupG, List.set_cons_zero, List.set_cons_succ, List.getElem?_cons_zero, List.getElem?_cons_succ, Option.bind_some, Option.bind_none, Option.map_some, Option.map_none, List.length_cons, List.length_nil, List.cons_append, List.nil_append, List.append_nil, if_true, if_false, ite_true, ite_false, Bool.false_eq_true, reduceIte, reduceCtorEq, List.map_cons, List.map_nil, Nat.sub_self, List.replicate_succ, List.replicate_zero, Nat.reduceSub, Nat.reduceAdd, Nat.reduceLT, Nat.reduceLeDiff, Nat.reduceEqDiff, Nat.reduceMul, Nat.reducePow, Int.reduceLT, Int.reduceLE, Int.reduceAdd, Int.reduceMul, Int.reduceSub, Int.reduceNeg, Int.reduceEq, Int.reducePow, Int.reduceMod, Int.reduceDiv, Int.reduceToNat, decide_true, decide_false, and_true, true_and, and_self, Option.some.injEq])).trans ?_
  refine (seqS_nx (e1 := E (some (.int many)) (some (.str (S l))) none k c none) (s1 := [C]) (by unfold forS; rw [hi, toS_ok]; exact h1)).trans ?_
  refine (seqS_nx h2).trans ?_
  simp only [seqS, ifS, setS, augS, dropS, retS, retN, nxS, bkS, ctS, asgS, subS, R.toS, R.bind, R.of, opF, unF, varF, cstF, chF, isB, asB, andT, orT, notT, andF, orF, notF, ifF, nilA, consA, tupF, lstF, cbF, callF, bmF', truT, truV, nameG, nilG, consG, tupG, List.set_cons_zero, List.set_cons_succ, List.getElem?_cons_zero, List.getElem?_cons_succ, Option.bind_some, Option.bind_none, Option.map_some, Option.map_none, List.length_cons, List.length_nil, List.cons_append, List.nil_append, List.append_nil, if_true, if_false, ite_true, ite_false, Bool.false_eq_true, reduceIte, reduceCtorEq, List.map_cons, List.map_nil, Nat.sub_self, List.replicate_succ, List.replicate_zero, Nat.reduceSub, Nat.reduceAdd, Nat.reduceLT, Nat.reduceLeDiff, Nat.reduceEqDiff, Nat.reduceMul, Nat.reducePow, Int.reduceLT, Int.reduceLE, Int.reduceAdd, Int.reduceMul, Int.reduceSub, Int.reduceNeg, Int.reduceEq, Int.reducePow, Int.reduceMod, Int.reduceDiv, Int.reduceToNat, decide_true, decide_false, and_true, true_and, and_self, Option.some.injEq]
theorem law_ok : ∀ ns : List Int, ns.length ≤ 63 → ∃ st, F_law_k07 [.frz (ns.map PV.int)] [] = .ok (.bl true) st := by
  intro ns hns
  obtain ⟨g, h⟩ := body_ok hns
  exact ⟨[], run_rt (g := g) h rfl⟩
end Pk07
theorem main_k07 : ∀ ns : List Int, ns.length ≤ 63 → ∃ st, F_law_k07 [.frz (ns.map PV.int)] [] = .ok (.bl true) st := Pk07.law_ok
end
end FL
end
open PySem PySem.W PyProof.Rows
set_option maxRecDepth 100000 in
set_option maxHeartbeats 0 in
theorem PySem.Challenge.cw_samewise_k07_whole_any_text_holds : PySem.Challenge.rw_samewise_k07_whole_any_text.Holds := by
  w_on; o_law; k_head; (case hw => w_witness2)
  k_fill
  refine L2.walk_of (l := PySem.Challenge.rw_samewise_k07_whole_any_text) (n := 63) (k := 70) (x := "_law_script") (CX := fun w => L2.CX PySem.Challenge.rw_samewise_k07_whole_any_text.prog w) (sp := fun w => FL.spTop _) rfl (by decide) rfl ⟨rfl, by decide, by decide⟩ (fun w h Y => PySem.W.kIn_of Y) ?F (fun _ _ a ns hl hO hS => ⟨a, ns, rfl, hl, hO, hS, fun _ => rfl⟩) (fun w H s e s' h => FL.top_cx _ w H s e s' h)
  case F =>
    intro w mg fa h KX G hmg
    refine' FL.Wk07.all_mk FL.main_k07 KX G hmg ?u_Apart ?u_TooBig ?u_TooWide ?u_NoRule ?u_NoRow ?u_Full ?u_NoTree ?u_SameError ?a0 ?l0 ?c0 ?k0 ?a1 ?l1 ?c1 ?k1 ?a2 ?l2 ?c2 ?k2 ?a3 ?l3 ?c3 ?k3 ?a4 ?l4 ?c4 ?k4 ?a5 ?l5 ?c5 ?k5 ?a6 ?l6 ?c6 ?k6 ?a7 ?l7 ?c7 ?k7 ?a8 ?l8 ?c8 ?k8 ?a9 ?l9 ?c9 ?k9 ?a10 ?l10 ?c10 ?k10 ?a11 ?l11 ?c11 ?k11 ?a12 ?l12 ?c12 ?k12 ?a13 ?l13 ?c13 ?k13 ?a14 ?l14 ?c14 ?k14 ?a15 ?l15 ?c15 ?k15 ?a16 ?l16 ?c16 ?k16 ?a17 ?l17 ?c17 ?k17 ?a18 ?l18 ?c18 ?k18 ?a19 ?l19 ?c19 ?k19 ?a20 ?l20 ?c20 ?k20 ?z_isinstance ?z_len ?z_int ?z_tuple ?z_ValueError ?z_sum ?z_str ?z_bool ?z_abs ?z_enumerate ?q_MOST_FIGURES ?q_FIGURES ?q_LETTERS ?q_MOST_DEPTH ?q_MOST_ARMS ?q_MOST_PARTS ?xr1_NoTree ?xr2_NoTree ?xr3_NoTree ?xr4_NoTree ?xa_NoTree ?xb_NoTree ?xc_NoTree ?xd_NoTree ?xe_NoTree ?xg_NoTree ?xh_NoTree ?xv_NoTree ?xk_NoTree_SameError ?xm_NoTree_SameError ?xk_NoTree_NoTree ?xm_NoTree_NoTree ?xk_NoTree_NoRule ?xm_NoTree_NoRule ?xk_NoTree_NoRow ?xm_NoTree_NoRow ?xk_NoTree_Full ?xm_NoTree_Full ?xk_NoTree_Apart ?xm_NoTree_Apart ?xk_NoTree_TooBig ?xm_NoTree_TooBig ?xk_NoTree_TooWide ?xm_NoTree_TooWide
    (case u_Apart => k_is); (case u_TooBig => k_is); (case u_TooWide => k_is); (case u_NoRule => k_is); (case u_NoRow => k_is); (case u_Full => k_is); (case u_NoTree => k_is); (case u_SameError => k_is)
    (case a0 => k_is); (case l0 => k_is); (case c0 => k_is); (case k0 => k_is); (case a1 => k_is); (case l1 => k_is); (case c1 => k_is); (case k1 => k_is)
    (case a2 => k_is); (case l2 => k_is); (case c2 => k_is); (case k2 => k_is); (case a3 => k_is); (case l3 => k_is); (case c3 => k_is); (case k3 => k_is)
    (case a4 => k_is); (case l4 => k_is); (case c4 => k_is); (case k4 => k_is); (case a5 => k_is); (case l5 => k_is); (case c5 => k_is); (case k5 => k_is)
    (case a6 => k_is); (case l6 => k_is); (case c6 => k_is); (case k6 => k_is); (case a7 => k_is); (case l7 => k_is); (case c7 => k_is); (case k7 => k_is)
    (case a8 => k_is); (case l8 => k_is); (case c8 => k_is); (case k8 => k_is); (case a9 => k_is); (case l9 => k_is); (case c9 => k_is); (case k9 => k_is)
    (case a10 => k_is); (case l10 => k_is); (case c10 => k_is); (case k10 => k_is); (case a11 => k_is); (case l11 => k_is); (case c11 => k_is); (case k11 => k_is)
    (case a12 => k_is); (case l12 => k_is); (case c12 => k_is); (case k12 => k_is); (case a13 => k_is); (case l13 => k_is); (case c13 => k_is); (case k13 => k_is)
    (case a14 => k_is); (case l14 => k_is); (case c14 => k_is); (case k14 => k_is); (case a15 => k_is); (case l15 => k_is); (case c15 => k_is); (case k15 => k_is)
    (case a16 => k_is); (case l16 => k_is); (case c16 => k_is); (case k16 => k_is); (case a17 => k_is); (case l17 => k_is); (case c17 => k_is); (case k17 => k_is)
    (case a18 => k_is); (case l18 => k_is); (case c18 => k_is); (case k18 => k_is); (case a19 => k_is); (case l19 => k_is); (case c19 => k_is); (case k19 => k_is)
    (case a20 => k_is); (case l20 => k_is); (case c20 => k_is); (case k20 => k_is); (case z_isinstance => k_is); (case z_len => k_is); (case z_int => k_is); (case z_tuple => k_is)
    (case z_ValueError => k_is); (case z_sum => k_is); (case z_str => k_is); (case z_bool => k_is); (case z_abs => k_is); (case z_enumerate => k_is); (case q_MOST_FIGURES => k_is); (case q_FIGURES => k_is)
    (case q_LETTERS => k_is); (case q_MOST_DEPTH => k_is); (case q_MOST_ARMS => k_is); (case q_MOST_PARTS => k_is); (case xr1_NoTree => k_exc); (case xr2_NoTree => k_is); (case xr3_NoTree => k_is); (case xr4_NoTree => k_is)
    (case xa_NoTree => k_is); (case xb_NoTree => k_is); (case xc_NoTree => k_is); (case xd_NoTree => k_is); (case xe_NoTree => k_is); (case xg_NoTree => k_is); (case xh_NoTree => k_is); (case xv_NoTree => kit_is)
    (case xk_NoTree_SameError => kit_is); (case xm_NoTree_SameError => kts_exm); (case xk_NoTree_NoTree => kit_is); (case xm_NoTree_NoTree => kts_exm); (case xk_NoTree_NoRule => kit_is); (case xm_NoTree_NoRule => kts_exm); (case xk_NoTree_NoRow => kit_is); (case xm_NoTree_NoRow => kts_exm)
    (case xk_NoTree_Full => kit_is); (case xm_NoTree_Full => kts_exm); (case xk_NoTree_Apart => kit_is); (case xm_NoTree_Apart => kts_exm); (case xk_NoTree_TooBig => kit_is); (case xm_NoTree_TooBig => kts_exm); (case xk_NoTree_TooWide => kit_is); (case xm_NoTree_TooWide => kts_exm)
