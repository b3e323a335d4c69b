import PyProof.Rows.All
import Wide.All
import OpenK.AllK
import Wide.FinOn
import HandS.ForMost
import HandS.ForExc
import HandS.CallSlots
import HandS.Wide
import HandS.TupAny
import HandS.Deep
import HandS.IsInst
import HandS.StrMore
import HandS.Zip
import HandS.Rev
import HandS.RevTup
import HandS.More
import HandS.SetFor
import HandS.SortInts
import PySem.Challenge.RW_samewise_k02_holes_in_order
set_option Elab.async false
section
set_option linter.all false
set_option maxRecDepth 100000
namespace FL
open PySem PySem.Spec PyProof.Rows L2

/-! ## values, stores -/
inductive PV where
  | non | bl (b : Bool) | int (i : Int) | str (x : Str) | ty (n : String) | cls (n : String)
  | ref (n : Nat) | tup (xs : List PV) | frz (xs : List PV)
structure Ex where
  c : String
  val : Option (Str × PV)
inductive PO where
  | lst (xs : List PV) | dK (kvs : List (Key × PV)) | dN (kvs : List (PV × PV)) | ins (c : String) (fs : List (Str × PV))
abbrev Store := List PO
abbrev Env := List (Option PV)
inductive R (α : Type) where
  | ok (a : α) (st : Store) | er (x : Ex) (st : Store) | no
def R.bind {α β : Type} (r : R α) (g : α → Store → R β) : R β :=
  match r with
  | .ok a s => g a s
  | .er x s => .er x s
  | .no => .no
/-- what a value-level deed gives -/
abbrev O (α : Type) := Option (α × Store)
def R.of {α : Type} : O α → R α
  | some (a, s) => .ok a s
  | none => .no
inductive RS where
  | nx (e : Env) (st : Store) | rt (v : PV) (st : Store) | bk (e : Env) (st : Store) | ct (e : Env) (st : Store) | er (x : Ex) (e : Env) (st : Store) | no
abbrev FE := Env → Store → R PV
abbrev FT := Env → Store → R Bool
abbrev FA := Env → Store → R (List PV)
abbrev FS := Env → Store → RS
abbrev Fn := List PV → Store → R PV

/-! ## the relation -/
def RoL (K : PySem.W.Frag) (H : Hp) (a : Addr) (xs : List V) : Prop :=
  (∃ o, H a = some (.frz o (.lst xs))) ∨
    ∃ (o : Obj) (its : Array Value) (n : Nat), K.lookup a = some o ∧ o.cls = .type "list" ∧ o.dict = none ∧ o.data = .seq its n ∧ its.size ≤ sizeLine ∧ Vals xs its.toList
theorem RoL.sq {K : PySem.W.Frag} {H : Hp} {a : Addr} {xs : List V} (h : RoL K H a xs) : SqL K H a xs := by
  rcases h with ⟨o, h⟩ | h
  · exact .inl (.inr ⟨o, h⟩)
  · exact .inr h

mutual
inductive VR (K : PySem.W.Frag) (ca : String → Addr) (H : Hp) (m : List Addr) : PV → V → Prop
  | non : VR K ca H m .non .non
  | bl (b : Bool) : VR K ca H m (.bl b) (.bl b)
  | int (i : Int) : VR K ca H m (.int i) (.int i)
  | str (x : Str) : VR K ca H m (.str x) (.str x)
  | ty (n : String) : VR K ca H m (.ty n) (.ty n)
  | cls (n : String) : VR K ca H m (.cls n) (.ref (ca n))
  | ref {n : Nat} {a : Addr} (h : m[n]? = some a) : VR K ca H m (.ref n) (.ref a)
  | tup {xs : List PV} {a : Addr} {vs : List V} (h : SqT K H a vs) (r : VRs K ca H m xs vs) : VR K ca H m (.tup xs) (.ref a)
  | frz {xs : List PV} {a : Addr} {vs : List V} (h : RoL K H a vs) (r : VRs K ca H m xs vs) : VR K ca H m (.frz xs) (.ref a)
inductive VRs (K : PySem.W.Frag) (ca : String → Addr) (H : Hp) (m : List Addr) : List PV → List V → Prop
  | nil : VRs K ca H m [] []
  | cons {x : PV} {v : V} {xs : List PV} {vs : List V} (h : VR K ca H m x v) (r : VRs K ca H m xs vs) : VRs K ca H m (x :: xs) (v :: vs)
end
structure Keep (K : PySem.W.Frag) (H H' : Hp) : Prop where
  t : ∀ a xs, SqT K H a xs → SqT K H' a xs
  f : ∀ a xs, RoL K H a xs → RoL K H' a xs
section
variable {K : PySem.W.Frag} {ca : String → Addr} {H H' H'' : Hp} {m m' m'' : List Addr}
theorem Keep.refl : Keep K H H := ⟨fun _ _ h => h, fun _ _ h => h⟩
theorem Keep.trans (a : Keep K H H') (b : Keep K H' H'') : Keep K H H'' := ⟨fun x y h => b.t x y (a.t x y h), fun x y h => b.f x y (a.f x y h)⟩
theorem pre_get {i : Nat} {a : Addr} (p : m <+: m') (h : m[i]? = some a) : m'[i]? = some a := by
  obtain ⟨l, rfl⟩ := p
  have hi : i < m.length := (List.getElem?_eq_some_iff.mp h).1
  rw [List.getElem?_append_left hi]
  exact h
mutual
theorem VR.mono (p : m <+: m') (k : Keep K H H') : ∀ {x : PV} {v : V}, VR K ca H m x v → VR K ca H' m' x v
  | _, _, .non => .non
  | _, _, .bl b => .bl b
  | _, _, .int i => .int i
  | _, _, .str x => .str x
  | _, _, .ty n => .ty n
  | _, _, .cls n => .cls n
  | _, _, .ref h => .ref (pre_get p h)
  | _, _, .tup h r => .tup (k.t _ _ h) (VRs.mono p k r)
  | _, _, .frz h r => .frz (k.f _ _ h) (VRs.mono p k r)
theorem VRs.mono (p : m <+: m') (k : Keep K H H') : ∀ {xs : List PV} {vs : List V}, VRs K ca H m xs vs → VRs K ca H' m' xs vs
  | _, _, .nil => .nil
  | _, _, .cons h r => .cons (VR.mono p k h) (VRs.mono p k r)
end
theorem VRs.length : ∀ {xs : List PV} {vs : List V}, VRs K ca H m xs vs → xs.length = vs.length
  | _, _, .nil => rfl
  | _, _, .cons _ r => by rw [List.length_cons, List.length_cons, VRs.length r]
theorem VRs.get : ∀ {xs : List PV} {vs : List V} {i : Nat} {x : PV}, VRs K ca H m xs vs → xs[i]? = some x → ∃ v, vs[i]? = some v ∧ VR K ca H m x v
  | _, _, _, _, .nil, e => by simp at e
  | _, _, 0, _, .cons h _, e => by simp at e; subst e; exact ⟨_, rfl, h⟩
  | _, _, i + 1, x, .cons _ r, e => by
    obtain ⟨v, h1, h2⟩ := VRs.get (i := i) (x := x) r (by simpa using e)
    exact ⟨v, by simpa using h1, h2⟩
theorem VRs.get' : ∀ {xs : List PV} {vs : List V} {i : Nat} {v : V}, VRs K ca H m xs vs → vs[i]? = some v → ∃ x, xs[i]? = some x ∧ VR K ca H m x v
  | _, _, _, _, .nil, e => by simp at e
  | _, _, 0, _, .cons h _, e => by simp at e; subst e; exact ⟨_, rfl, h⟩
  | _, _, i + 1, v, .cons _ r, e => by
    obtain ⟨x, h1, h2⟩ := VRs.get' (i := i) (v := v) r (by simpa using e)
    exact ⟨x, by simpa using h1, h2⟩
theorem VRs.append : ∀ {xs ys : List PV} {vs ws : List V}, VRs K ca H m xs vs → VRs K ca H m ys ws → VRs K ca H m (xs ++ ys) (vs ++ ws)
  | _, _, _, _, .nil, s => s
  | _, _, _, _, .cons h r, s => .cons h (VRs.append r s)
theorem VRs.take : ∀ {xs : List PV} {vs : List V} (n : Nat), VRs K ca H m xs vs → VRs K ca H m (xs.take n) (vs.take n)
  | _, _, 0, _ => .nil
  | _, _, _ + 1, .nil => .nil
  | _, _, n + 1, .cons h r => .cons h (VRs.take n r)
theorem VRs.drop : ∀ {xs : List PV} {vs : List V} (n : Nat), VRs K ca H m xs vs → VRs K ca H m (xs.drop n) (vs.drop n)
  | _, _, 0, r => r
  | _, _, _ + 1, .nil => .nil
  | _, _, n + 1, .cons _ r => VRs.drop n r
theorem VRs.set {x : PV} {v : V} (h : VR K ca H m x v) : ∀ {xs : List PV} {vs : List V} (i : Nat), VRs K ca H m xs vs → VRs K ca H m (xs.set i x) (vs.set i v)
  | _, _, _, .nil => .nil
  | _, _, 0, .cons _ t => .cons h t
  | _, _, i + 1, .cons q t => .cons q (VRs.set h i t)
theorem VRs.rev {xs : List PV} {vs : List V} (h : VRs K ca H m xs vs) : VRs K ca H m xs.reverse vs.reverse := by
  induction xs generalizing vs with
  | nil => cases h; exact .nil
  | cons x xs ih =>
    cases h with
    | cons h r =>
      rw [List.reverse_cons, List.reverse_cons]
      exact (ih r).append (.cons h .nil)
theorem VRs.ints : ∀ (ns : List Int), VRs K ca H m (ns.map PV.int) (ns.map V.int)
  | [] => .nil
  | n :: r => .cons (.int n) (VRs.ints r)

/-- pairs with one key -/
def KR {κ : Type} (K : PySem.W.Frag) (ca : String → Addr) (H : Hp) (m : List Addr) : List (κ × PV) → List (κ × V) → Prop := Paired fun p q => p.1 = q.1 ∧ VR K ca H m p.2 q.2
theorem KR.mono {κ : Type} (p : m <+: m') (k : Keep K H H') {a : List (κ × PV)} {b : List (κ × V)} (h : KR K ca H m a b) : KR K ca H' m' a b := Paired.mapP h fun _ _ q => ⟨q.1, q.2.mono p k⟩
/-- what stands at a place of the store -/
def OR (K : PySem.W.Frag) (ca : String → Addr) (H : Hp) (m : List Addr) (a : Addr) : PO → Prop
  | .lst xs => ∃ vs, H a = some (.lst vs) ∧ VRs K ca H m xs vs
  | .dK kvs => ∃ ws, H a = some (.dK ws) ∧ KR K ca H m kvs ws
  | .dN _ => False
  | .ins c fs => ∃ dx gs, H a = some (.ins (ca c) dx gs) ∧ KR K ca H m fs gs
structure SR (K : PySem.W.Frag) (ca : String → Addr) (H : Hp) (m : List Addr) (st : Store) : Prop where
  len : m.length = st.length
  nd : m.Nodup
  ob : ∀ (n : Nat) (a : Addr) (o : PO), m[n]? = some a → st[n]? = some o → OR K ca H m a o
def ER (K : PySem.W.Frag) (ca : String → Addr) (H : Hp) (m : List Addr) (e : Env) (σ : L2.St) : Prop :=
  e.length = σ.length ∧ ∀ (i : Nat) v, e[i]? = some (some v) → ∃ w, σ[i]? = some (some w) ∧ VR K ca H m v w
theorem ER.mono {e : Env} {σ : L2.St} (h : ER K ca H m e σ) (p : m <+: m') (k : Keep K H H') : ER K ca H' m' e σ :=
  ⟨h.1, fun i v q => let ⟨w, a, b⟩ := h.2 i v q; ⟨w, a, b.mono p k⟩⟩
theorem OR.some {a : Addr} {o : PO} (h : OR K ca H m a o) : ∃ u, H a = Option.some u ∧ (∀ xs, u ≠ .tup xs) ∧ (∀ o' w, u ≠ .frz o' w) := by
  cases o with
  | lst xs => obtain ⟨vs, e, _⟩ := h; exact ⟨_, e, (fun _ z => nomatch z), (fun _ _ z => nomatch z)⟩
  | dK kvs => obtain ⟨vs, e, _⟩ := h; exact ⟨_, e, (fun _ z => nomatch z), (fun _ _ z => nomatch z)⟩
  | dN kvs => exact h.elim
  | ins c fs => obtain ⟨dx, vs, e, _⟩ := h; exact ⟨_, e, (fun _ z => nomatch z), (fun _ _ z => nomatch z)⟩
/-- what stands stays where its own cell, the tuples and the map stay -/
theorem OR.mono {a : Addr} {o : PO} (h : OR K ca H m a o) (p : m <+: m') (k : Keep K H H') (e : H' a = H a) : OR K ca H' m' a o := by
  cases o with
  | lst xs => obtain ⟨vs, q, r⟩ := h; exact ⟨vs, by rw [e]; exact q, r.mono p k⟩
  | dK kvs => obtain ⟨vs, q, r⟩ := h; exact ⟨vs, by rw [e]; exact q, r.mono p k⟩
  | dN kvs => exact h.elim
  | ins c fs => obtain ⟨dx, vs, q, r⟩ := h; exact ⟨dx, vs, by rw [e]; exact q, r.mono p k⟩
/-- a new object that is no matter to the store -/
theorem Keep.new {p : Addr} {o : HO} (h : H p = none) : Keep K H (upd H p o) where
  t := fun a xs q => by
    rcases q with (q | ⟨ob, q⟩) | q
    · exact .inl (.inl (by rw [upd_ne (ne_of_none q h)]; exact q))
    · exact .inl (.inr ⟨ob, by rw [upd_ne (ne_of_none q h)]; exact q⟩)
    · exact .inr q
  f := fun a xs q => by
    rcases q with ⟨ob, q⟩ | q
    · exact .inl ⟨ob, by rw [upd_ne (ne_of_none q h)]; exact q⟩
    · exact .inr q
/-- an object of the store is changed -/
theorem Keep.upd {p : Addr} {o u : HO} (h : H p = some u) (h1 : ∀ xs, u ≠ .tup xs) (h2 : ∀ o' w, u ≠ .frz o' w) : Keep K H (upd H p o) where
  t := fun a xs q => by
    rcases q with (q | ⟨ob, q⟩) | q
    · exact .inl (.inl (by rw [upd_ne (ne_of q h fun z => h1 _ z.symm)]; exact q))
    · exact .inl (.inr ⟨ob, by rw [upd_ne (ne_of q h fun z => h2 _ _ z.symm)]; exact q⟩)
    · exact .inr q
  f := fun a xs q => by
    rcases q with ⟨ob, q⟩ | q
    · exact .inl ⟨ob, by rw [upd_ne (ne_of q h fun z => h2 _ _ z.symm)]; exact q⟩
    · exact .inr q
section
variable {st : Store}
theorem SR.get (s : SR K ca H m st) {n : Nat} {o : PO} (h : st[n]? = some o) : ∃ a, m[n]? = some a ∧ OR K ca H m a o := by
  have hn : n < m.length := by rw [s.len]; exact (List.getElem?_eq_some_iff.mp h).1
  exact ⟨m[n], List.getElem?_eq_getElem hn, s.ob n _ o (List.getElem?_eq_getElem hn) h⟩
theorem SR.at (s : SR K ca H m st) {n : Nat} {a : Addr} {o : PO} (h : st[n]? = some o) (ha : m[n]? = some a) : OR K ca H m a o := s.ob n a o ha h
theorem SR.ne_new (s : SR K ca H m st) {p : Addr} (h : H p = none) : p ∉ m := fun hm => by
  obtain ⟨i, hi, e⟩ := List.getElem_of_mem hm
  have hi' : i < st.length := by rw [← s.len]; exact hi
  obtain ⟨u, q, _⟩ := (s.ob i _ _ (List.getElem?_eq_getElem hi) (List.getElem?_eq_getElem hi')).some
  rw [e, h] at q
  cases q
/-- a new object that the store does not hold -/
theorem SR.skip (s : SR K ca H m st) {p : Addr} {o : HO} (h : H p = none) : SR K ca (upd H p o) m st :=
  ⟨s.len, s.nd, fun n a ob ha ho => (s.ob n a ob ha ho).mono (List.prefix_refl _) (Keep.new h) (upd_ne fun z => s.ne_new h (z ▸ List.mem_of_getElem? ha))⟩
/-- a new object that the store holds -/
theorem SR.new (s : SR K ca H m st) {p : Addr} {o : HO} {ob : PO} (h : H p = none) (r : OR K ca (L2.upd H p o) (m ++ [p]) p ob) : SR K ca (L2.upd H p o) (m ++ [p]) (st ++ [ob]) := by
  refine ⟨by rw [List.length_append, List.length_append, s.len] <;> rfl, ?_, fun n a u ha hu => ?_⟩
  · rw [List.nodup_append]
    refine ⟨s.nd, List.nodup_cons.mpr ⟨List.not_mem_nil, List.nodup_nil⟩, fun x hx y hy => ?_⟩
    obtain rfl := List.mem_singleton.mp hy
    exact fun z => s.ne_new h (z ▸ hx)
  · by_cases hn : n < m.length
    · rw [List.getElem?_append_left hn] at ha
      rw [List.getElem?_append_left (by rw [← s.len]; exact hn)] at hu
      exact (s.ob n a u ha hu).mono (List.prefix_append _ _) (Keep.new h) (upd_ne fun z => s.ne_new h (z ▸ List.mem_of_getElem? ha))
    · have e : n = m.length := by
        have := (List.getElem?_eq_some_iff.mp ha).1
        rw [List.length_append, List.length_singleton] at this
        omega
      subst e
      rw [List.getElem?_append_right (Nat.le_refl _), Nat.sub_self] at ha
      rw [s.len, List.getElem?_append_right (Nat.le_refl _), Nat.sub_self] at hu
      cases ha
      cases hu
      exact r
/-- an object of the store is changed -/
theorem SR.set (s : SR K ca H m st) {n : Nat} {p : Addr} {o u : HO} {ob : PO} (hp : m[n]? = some p) (hu : H p = some u) (h1 : ∀ xs, u ≠ .tup xs) (h2 : ∀ o' w, u ≠ .frz o' w)
    (r : OR K ca (L2.upd H p o) m p ob) : SR K ca (L2.upd H p o) m (st.set n ob) := by
  refine ⟨by rw [List.length_set, s.len], s.nd, fun k a w ha hw => ?_⟩
  by_cases e : n = k
  · subst e
    rw [hp] at ha
    cases ha
    rw [List.getElem?_set_self (by rw [← s.len]; exact (List.getElem?_eq_some_iff.mp hp).1)] at hw
    cases hw
    exact r
  · rw [List.getElem?_set_ne e] at hw
    refine (s.ob k a w ha hw).mono (List.prefix_refl _) (Keep.upd hu h1 h2) (upd_ne fun z => e ?_)
    subst z
    have i1 := (List.getElem?_eq_some_iff.mp hp)
    have i2 := (List.getElem?_eq_some_iff.mp ha)
    obtain ⟨l1, e1⟩ := i1
    obtain ⟨l2, e2⟩ := i2
    exact (List.getElem_inj s.nd).mp (e1.trans e2.symm)
end
end

/-! ## what is wanted behind -/
section
variable (K : PySem.W.Frag) (ca : String → Addr)
/-- an exception -/
def XR (H : Hp) (m : List Addr) (x : Ex) (d : Option Addr) : Prop :=
  match x.val with
  | none => d = none
  | some (f, v) => ∃ a w, d = some a ∧ H a = some (.xd [(f, w)]) ∧ VR K ca H m v w
abbrev WV := Ex → Hp → List Addr → Store → Prop
def Post {α β : Type} (rel : Hp → List Addr → α → β → Prop) (E : Ex → Option Addr → Hp → Prop) (m : List Addr) (H : Hp) (Q : β → Hp → Prop) (r : R α) : Prop :=
  match r with
  | .ok a st' => ∀ m' b H', m <+: m' → Keep K H H' → SR K ca H' m' st' → rel H' m' a b → Q b H'
  | .er x st' => ∀ m' d H', m <+: m' → Keep K H H' → SR K ca H' m' st' → XR K ca H' m' x d → E x d H'
  | .no => False
def Post0 {α β : Type} (rel : Hp → List Addr → α → β → Prop) (m : List Addr) (H : Hp) (Q : β → Hp → Prop) (r : O α) : Prop :=
  match r with
  | some (a, st') => ∀ m' b H', m <+: m' → Keep K H H' → SR K ca H' m' st' → rel H' m' a b → Q b H'
  | none => False
def PostS (E : Ex → Option Addr → L2.St → Hp → Prop) (m : List Addr) (H : Hp) (D : Ends) (r : RS) : Prop :=
  match r with
  | .nx e st' => ∀ m' σ' H', m <+: m' → Keep K H H' → SR K ca H' m' st' → ER K ca H' m' e σ' → D.nx σ' H'
  | .rt v st' => ∀ m' w H', m <+: m' → Keep K H H' → SR K ca H' m' st' → VR K ca H' m' v w → D.rt w H'
  | .bk e st' => ∀ m' σ' H', m <+: m' → Keep K H H' → SR K ca H' m' st' → ER K ca H' m' e σ' → D.bk σ' H'
  | .ct e st' => ∀ m' σ' H', m <+: m' → Keep K H H' → SR K ca H' m' st' → ER K ca H' m' e σ' → D.ct σ' H'
  | .er x e st' => ∀ m' d σ' H', m <+: m' → Keep K H H' → SR K ca H' m' st' → ER K ca H' m' e σ' → XR K ca H' m' x d → E x d σ' H'
  | .no => False
end
section
variable {K : PySem.W.Frag} {ca : String → Addr} {m m' : List Addr} {H H' : Hp}
theorem Post.mono {α β : Type} {rel : Hp → List Addr → α → β → Prop} {E : Ex → Option Addr → Hp → Prop} {Q : β → Hp → Prop} {r : R α} (h : Post K ca rel E m H Q r) (p : m <+: m') (k : Keep K H H') : Post K ca rel E m' H' Q r := by
  cases r with
  | ok a st => exact fun m2 b H2 p2 k2 => h m2 b H2 (p.trans p2) (k.trans k2)
  | er x st => exact fun m2 b H2 p2 k2 => h m2 b H2 (p.trans p2) (k.trans k2)
  | no => exact h
theorem Post0.mono {α β : Type} {rel : Hp → List Addr → α → β → Prop} {Q : β → Hp → Prop} {r : O α} (h : Post0 K ca rel m H Q r) (p : m <+: m') (k : Keep K H H') : Post0 K ca rel m' H' Q r := by
  cases r with
  | some a => exact fun m2 b H2 p2 k2 => h m2 b H2 (p.trans p2) (k.trans k2)
  | none => exact h
theorem PostS.mono {E : Ex → Option Addr → L2.St → Hp → Prop} {D : Ends} {r : RS} (h : PostS K ca E m H D r) (p : m <+: m') (k : Keep K H H') : PostS K ca E m' H' D r := by
  cases r with
  | nx e st => exact fun m2 b H2 p2 k2 => h m2 b H2 (p.trans p2) (k.trans k2)
  | rt v st => exact fun m2 b H2 p2 k2 => h m2 b H2 (p.trans p2) (k.trans k2)
  | bk e st => exact fun m2 b H2 p2 k2 => h m2 b H2 (p.trans p2) (k.trans k2)
  | ct e st => exact fun m2 b H2 p2 k2 => h m2 b H2 (p.trans p2) (k.trans k2)
  | er x e st => exact fun m2 d b H2 p2 k2 => h m2 d b H2 (p.trans p2) (k.trans k2)
  | no => exact h
theorem Post.of {α β : Type} {rel : Hp → List Addr → α → β → Prop} {E : Ex → Option Addr → Hp → Prop} {Q : β → Hp → Prop} {r : O α} (h : Post K ca rel E m H Q (R.of r)) : Post0 K ca rel m H Q r := by
  cases r with
  | some a => exact h
  | none => exact h
end

/-! ## judgements -/
section
variable (X : Cx) (W : WX) (ca : String → Addr)
/-- the wish of an exception at the slots σ -/
abbrev EW (σ : L2.St) : Ex → Option Addr → Hp → Prop := fun x d H => W (.ref (ca x.c)) d σ H
abbrev EWs : Ex → Option Addr → L2.St → Hp → Prop := fun x d σ H => W (.ref (ca x.c)) d σ H
abbrev rB : Hp → List Addr → Bool → Bool → Prop := fun _ _ a b => a = b
structure JE (e : Expr) (f : FE) : Prop where
  ex : ∃ t, PE X e t ∧ ∀ σ H m env st Q, SR X.K ca H m st → ER X.K ca H m env σ → Post X.K ca (VR X.K ca) (EW W ca σ) m H Q (f env st) → t σ H Q
structure JT (e : Expr) (f : FT) : Prop where
  ex : ∃ t, PT X e t ∧ ∀ σ H m env st Q, SR X.K ca H m st → ER X.K ca H m env σ → Post X.K ca rB (EW W ca σ) m H Q (f env st) → t σ H Q
/-- and, or, whatever the whole is -/
structure JW (e : Expr) (f : FT) : Prop where
  ex : ∃ t, PW X e t ∧ ∀ σ H m env st Q, SR X.K ca H m st → ER X.K ca H m env σ → Post X.K ca rB (EW W ca σ) m H Q (f env st) → t σ H Q
structure JA (es : List Expr) (f : FA) : Prop where
  ex : ∃ t, PA X es t ∧ ∀ σ H m env st Q, SR X.K ca H m st → ER X.K ca H m env σ → Post X.K ca (VRs X.K ca) (EW W ca σ) m H Q (f env st) → t σ H Q
structure JS (s : Stmt) (f : FS) : Prop where
  ex : ∃ t, PS X s t ∧ ∀ σ H m env st D, SR X.K ca H m st → ER X.K ca H m env σ → PostS X.K ca (EWs W ca) m H D (f env st) → t D σ H
structure JSs (s : List Stmt) (f : FS) : Prop where
  ex : ∃ t, PSs X s t ∧ ∀ σ H m env st D, SR X.K ca H m st → ER X.K ca H m env σ → PostS X.K ca (EWs W ca) m H D (f env st) → t D σ H
/-- a target -/
abbrev FG := PV → Env → Option Env
structure JG (tg : Expr) (g : FG) : Prop where
  ex : ∃ t, PG X tg t ∧ ∀ σ H m env v w env' Q, ER X.K ca H m env σ → VR X.K ca H m v w → g v env = some env' → (∀ σ', ER X.K ca H m env' σ' → Q σ' H) → t w σ H Q
structure JGs (tgs : List Expr) (g : List PV → Env → Option Env) : Prop where
  ex : ∃ t, PGs X tgs t ∧ ∀ σ H m env v w env' Q, ER X.K ca H m env σ → VRs X.K ca H m v w → g v env = some env' → (∀ σ', ER X.K ca H m env' σ' → Q σ' H) → t w σ H Q
end
end FL
end
section
set_option linter.all false
set_option maxRecDepth 100000
namespace FL
open PySem PySem.Spec PyProof.Rows L2
noncomputable section

/-! ## rules of the nodes -/
section
variable {K : PySem.W.Frag} {ca : String → Addr} {m m' : List Addr} {H H' : Hp}
theorem Post.bind {α β α' β' : Type} {rel : Hp → List Addr → α → β → Prop} {rel2 : Hp → List Addr → α' → β' → Prop} {E : Ex → Option Addr → Hp → Prop} {Q1 : β → Hp → Prop} {Q2 : β' → Hp → Prop} {r : R α} {g : α → Store → R α'}
    (h : Post K ca rel2 E m H Q2 (r.bind g))
    (f : ∀ a st1 m1 b H1, m <+: m1 → Keep K H H1 → SR K ca H1 m1 st1 → rel H1 m1 a b → Post K ca rel2 E m1 H1 Q2 (g a st1) → Q1 b H1) : Post K ca rel E m H Q1 r := by
  cases r with
  | ok a st => exact fun m1 b H1 p k s q => f a st m1 b H1 p k s q (Post.mono h p k)
  | er x st => exact h
  | no => exact h
/-- a result at hand -/
theorem Post.ok {α β : Type} {rel : Hp → List Addr → α → β → Prop} {E : Ex → Option Addr → Hp → Prop} {Q : β → Hp → Prop} {a : α} {st : Store} {b : β} (h : Post K ca rel E m H Q (.ok a st)) (s : SR K ca H m st) (r : rel H m a b) : Q b H :=
  h m b H (List.prefix_refl _) Keep.refl s r
end

def varF (i : Nat) : FE := fun e st => match e[i]? with
  | some (some v) => .ok v st
  | _ => .no
def cstF (v : PV) : FE := fun _ st => .ok v st
def opF (g : PV → PV → Store → O PV) (fa fb : FE) : FE := fun e st => (fa e st).bind fun x s1 => (fb e s1).bind fun y s2 => R.of (g x y s2)
def unF (g : PV → Store → O PV) (fa : FE) : FE := fun e st => (fa e st).bind fun x s1 => R.of (g x s1)
def asB (v : PV) (st : Store) : R Bool := match v with
  | .bl b => .ok b st
  | _ => .no
def chF (g g' : PV → PV → Store → O PV) (fa fb fc : FE) : FE := fun e st => (fa e st).bind fun x s1 => (fb e s1).bind fun y s2 => (R.of (g x y s2)).bind fun z s3 => (asB z s3).bind fun k s4 =>
  if k = true then (fc e s4).bind fun u s5 => R.of (g' y u s5) else .ok (.bl false) s4
def isB (fa : FE) : FT := fun e st => (fa e st).bind asB
def andT (f g : FT) : FT := fun e st => (f e st).bind fun k s1 => if k = true then g e s1 else .ok false s1
def orT (f g : FT) : FT := fun e st => (f e st).bind fun k s1 => if k = true then .ok true s1 else g e s1
def notT (f : FT) : FT := fun e st => (f e st).bind fun k s1 => .ok (!k) s1
def andF (f g : FE) : FE := fun e st => ((f e st).bind asB).bind fun k s1 => if k = true then g e s1 else .ok (.bl false) s1
def orF (f g : FE) : FE := fun e st => ((f e st).bind asB).bind fun k s1 => if k = true then .ok (.bl true) s1 else g e s1
def notF (f : FE) : FE := fun e st => ((f e st).bind asB).bind fun k s1 => .ok (.bl (!k)) s1
def ifF (c : FT) (f g : FE) : FE := fun e st => (c e st).bind fun k s1 => if k = true then f e s1 else g e s1
def nilA : FA := fun _ st => .ok [] st
def consA (f : FE) (g : FA) : FA := fun e st => (f e st).bind fun x s1 => (g e s1).bind fun xs s2 => .ok (x :: xs) s2
def tupF (f : FA) : FE := fun e st => (f e st).bind fun xs s1 => if xs.length ≤ sizeLine then .ok (.tup xs) s1 else .no
def lstF (f : FA) : FE := fun e st => (f e st).bind fun xs s1 => if xs.length ≤ sizeLine then .ok (.ref s1.length) (s1 ++ [.lst xs]) else .no
def cbF (g : List PV → Store → O PV) (f : FA) : FE := fun e st => (f e st).bind fun xs s1 => R.of (g xs s1)
/-- a call of a def; ds: the defaults that fill up -/
def callF (n : Nat) (F : Fn) (ds : List PV) (f : FA) : FE := fun e st => (f e st).bind fun xs s1 => if (xs ++ ds).length = n then F (xs ++ ds) s1 else .no
/-- a method of a built-in type -/
def bmF (g : PV → List PV → Store → O PV) (fo : FE) (f : FA) : FE := fun e st => (fo e st).bind fun o s1 => (f e s1).bind fun xs s2 => R.of (g o xs s2)
def truV (v : PV) (st : Store) : R Bool := match v with
  | .non => .ok false st
  | .bl b => .ok b st
  | .int i => .ok (i != 0) st
  | .str x => if x.length ≤ sizeLine then .ok (x.length != 0) st else .no
  | .tup xs => .ok (!xs.isEmpty) st
  | .frz xs => .ok (!xs.isEmpty) st
  | .ref n => match st[n]? with
    | some (.lst xs) => .ok (!xs.isEmpty) st
    | some (.dK kvs) => .ok (!kvs.isEmpty) st
    | _ => .no
  | _ => .no
def truT (fa : FE) : FT := fun e st => (fa e st).bind truV

section
variable {X : Cx} {W : WX} {ca : String → Addr}
/-! ### value-level deeds -/
def OpF (X : Cx) (ca : String → Addr) (f : Value → Value → Sem Value) (g : PV → PV → Store → O PV) : Prop :=
  ∃ r, OpR X f r ∧ ∀ H m st x y x' y' Q, SR X.K ca H m st → VR X.K ca H m x x' → VR X.K ca H m y y' → Post0 X.K ca (VR X.K ca) m H Q (g x y st) → r x' y' H Q
def UnF (X : Cx) (ca : String → Addr) (f : Value → Sem Value) (g : PV → Store → O PV) : Prop :=
  ∃ r, UnR X f r ∧ ∀ H m st x x' Q, SR X.K ca H m st → VR X.K ca H m x x' → Post0 X.K ca (VR X.K ca) m H Q (g x st) → r x' H Q
def IxF (X : Cx) (ca : String → Addr) (g : PV → PV → Store → O PV) : Prop :=
  ∃ r, IxR X r ∧ ∀ H m st x y x' y' Q, SR X.K ca H m st → VR X.K ca H m x x' → VR X.K ca H m y y' → Post0 X.K ca (VR X.K ca) m H Q (g x y st) → r x' y' H Q
def CbF (X : Cx) (ca : String → Addr) (f : Value) (g : List PV → Store → O PV) : Prop :=
  ∃ r, CallR X f r ∧ ∀ H m st xs vs Q, SR X.K ca H m st → VRs X.K ca H m xs vs → Post0 X.K ca (VR X.K ca) m H Q (g xs st) → r vs H Q
/-- T: the type of the receiver -/
def BmF (X : Cx) (ca : String → Addr) (T : String) (id : String) (g : PV → List PV → Store → O PV) : Prop :=
  ∃ r, MtR X id r ∧ ∀ H m st o o' xs vs Q, SR X.K ca H m st → VR X.K ca H m o o' → VRs X.K ca H m xs vs → Post0 X.K ca (VR X.K ca) m H Q (g o xs st) → r o' vs H Q

/-! ### names, constants -/
theorem je_v (i : Nat) {x : Str} {pos : Pos} (hN : X.N[i]? = some x := by rfl) (hv : Vis X.env.scope x := by first | exact Or.inl rfl | exact Or.inr (Or.inl rfl) | exact Or.inr (Or.inr rfl))
    (hd : (x == ("__debug__" : Str)) = false := by decide) (hcd : (x == ("__classdict__" : Str)) = false := by decide) : JE X W ca (.Name x pos) (varF i) := by
  refine ⟨_, pe_var hN hv hd hcd, fun σ H m env st Q s e h => ?_⟩
  unfold varF at h
  split at h
  · rename_i v hv
    obtain ⟨w, h1, h2⟩ := e.2 i v hv
    exact ⟨w, h1, h.ok s h2⟩
  · exact h.elim
theorem je_int {i j pos} : JE X W ca (.Constant (.int i) j pos) (cstF (.int i)) := ⟨_, pe_int, fun σ H m env st Q s e h => h.ok s (.int i)⟩
theorem je_bl {b j pos} : JE X W ca (.Constant (.bool b) j pos) (cstF (.bl b)) := ⟨_, pe_bl, fun σ H m env st Q s e h => h.ok s (.bl b)⟩
theorem je_non {j pos} : JE X W ca (.Constant .none j pos) (cstF .non) := ⟨_, pe_non, fun σ H m env st Q s e h => h.ok s .non⟩
theorem je_str {x j pos} : JE X W ca (.Constant (.str x) j pos) (cstF (.str x)) := ⟨_, pe_str, fun σ H m env st Q s e h => h.ok s (.str x)⟩
/-- a constant of the module -/
theorem je_glob {x : Str} {v : PV} {u : Value} {w : V} {pos : Pos} (hg : Gl X x) (hm : X.mg x = some u) (r : RelV w u) (hr : ∀ H m, VR X.K ca H m v w) (hd : (x == ("__debug__" : Str)) = false := by decide) : JE X W ca (.Name x pos) (cstF v) :=
  ⟨_, pe_glob hg hm r hd, fun σ H m env st Q s e h => h.ok s (hr H m)⟩
/-- a built-in type as a value -/
theorem je_ty {x : Str} {n : String} {pos : Pos} (hg : Gl X x) (hm : X.mg x = none) (hv : bootBuiltins x = some (.type n)) (hn : x ≠ "__name__" := by decide) (hd : (x == ("__debug__" : Str)) = false := by decide) : JE X W ca (.Name x pos) (cstF (.ty n)) :=
  ⟨_, pe_bltn (v := .ty n) hg hm hv rfl hn hd, fun σ H m env st Q s e h => h.ok s (.ty n)⟩

/-! ### operators -/
theorem je_op {op : Operator} {a b : Expr} {pos : Pos} {fa fb : FE} {g : PV → PV → Store → O PV} (ho : OpF X ca (binaryOp op) g) (ha : JE X W ca a fa) (hb : JE X W ca b fb) : JE X W ca (.BinOp a op b pos) (opF g fa fb) := by
  obtain ⟨ta, pa, ra⟩ := ha.ex
  obtain ⟨tb, pb, rb⟩ := hb.ex
  obtain ⟨r, po, ro⟩ := ho
  refine ⟨_, pe_op po pa pb, fun σ H m env st Q s e h => ?_⟩
  refine ra σ H m env st _ s e (Post.bind h fun x st1 m1 x' H1 p1 k1 s1 r1 h1 => ?_)
  refine rb σ H1 m1 env st1 _ s1 (e.mono p1 k1) (Post.bind h1 fun y st2 m2 y' H2 p2 k2 s2 r2 h2 => ?_)
  exact ro H2 m2 st2 x y x' y' Q s2 (r1.mono p2 k2) r2 h2.of
theorem je_un {op : UnaryOp} {a : Expr} {pos : Pos} {fa : FE} {g : PV → Store → O PV} (ho : UnF X ca (unaryOp op) g) (ha : JE X W ca a fa) : JE X W ca (.UnaryOp op a pos) (unF g fa) := by
  obtain ⟨ta, pa, ra⟩ := ha.ex
  obtain ⟨r, po, ro⟩ := ho
  refine ⟨_, pe_un po pa, fun σ H m env st Q s e h => ?_⟩
  refine ra σ H m env st _ s e (Post.bind h fun x st1 m1 x' H1 p1 k1 s1 r1 h1 => ?_)
  exact ro H1 m1 st1 x x' Q s1 r1 h1.of
theorem je_cmp {op : CmpOp} {a b : Expr} {pos : Pos} {fa fb : FE} {g : PV → PV → Store → O PV} (ho : OpF X ca (compareOp op) g) (ha : JE X W ca a fa) (hb : JE X W ca b fb) (hm : behindInMarks op b = false) : JE X W ca (.Compare a [op] [b] pos) (opF g fa fb) := by
  obtain ⟨ta, pa, ra⟩ := ha.ex
  obtain ⟨tb, pb, rb⟩ := hb.ex
  obtain ⟨r, po, ro⟩ := ho
  refine ⟨_, pe_cmpR po pa pb hm, fun σ H m env st Q s e h => ?_⟩
  refine ra σ H m env st _ s e (Post.bind h fun x st1 m1 x' H1 p1 k1 s1 r1 h1 => ?_)
  refine rb σ H1 m1 env st1 _ s1 (e.mono p1 k1) (Post.bind h1 fun y st2 m2 y' H2 p2 k2 s2 r2 h2 => ?_)
  exact ro H2 m2 st2 x y x' y' Q s2 (r1.mono p2 k2) r2 h2.of
theorem asB_post {m : List Addr} {H : Hp} {E : Ex → Option Addr → Hp → Prop} {Q : Bool → Hp → Prop} {x : PV} {x' : V} {st : Store} (h : Post X.K ca rB E m H Q (asB x st)) (s : SR X.K ca H m st) (r : VR X.K ca H m x x') : ∃ k, x' = .bl k ∧ Q k H := by
  cases r with
  | bl b => exact ⟨b, rfl, h.ok s rfl⟩
  | _ => exact h.elim
theorem jt_cmp {op : CmpOp} {a b : Expr} {pos : Pos} {fa fb : FE} {g : PV → PV → Store → O PV} (ho : OpF X ca (compareOp op) g) (ha : JE X W ca a fa) (hb : JE X W ca b fb) (hm : behindInMarks op b = false) : JT X W ca (.Compare a [op] [b] pos) (isB (opF g fa fb)) := by
  obtain ⟨ta, pa, ra⟩ := ha.ex
  obtain ⟨tb, pb, rb⟩ := hb.ex
  obtain ⟨r, po, ro⟩ := ho
  refine ⟨_, pt_cmpR po pa pb hm, fun σ H m env st Q s e h => ?_⟩
  unfold isB opF at h
  have h' : Post X.K ca rB (EW W ca σ) m H Q ((fa env st).bind fun x s1 => (fb env s1).bind fun y s2 => (R.of (g x y s2)).bind asB) := by
    cases q : fa env st with
    | ok x s1 =>
      rw [q] at h
      simp only [R.bind] at h ⊢
      cases q2 : fb env s1 <;> rw [q2] at h <;> exact h
    | er x s1 => rw [q] at h; exact h
    | no => rw [q] at h; exact h
  refine ra σ H m env st _ s e (Post.bind h' fun x st1 m1 x' H1 p1 k1 s1 r1 h1 => ?_)
  refine rb σ H1 m1 env st1 _ s1 (e.mono p1 k1) (Post.bind h1 fun y st2 m2 y' H2 p2 k2 s2 r2 h2 => ?_)
  refine ro H2 m2 st2 x y x' y' _ s2 (r1.mono p2 k2) r2 (Post.of (Post.bind h2 fun z st3 m3 z' H3 p3 k3 s3 r3 h3 => ?_))
  exact asB_post h3 s3 r3
theorem je_ch {op op' : CmpOp} {a b c : Expr} {pos : Pos} {fa fb fc : FE} {g g' : PV → PV → Store → O PV} (ho : OpF X ca (compareOp op) g) (ho' : OpF X ca (compareOp op') g') (ha : JE X W ca a fa) (hb : JE X W ca b fb) (hc : JE X W ca c fc)
    (hm : lastMarks [op, op'] [b, c] = false := by with_unfolding_all rfl) : JE X W ca (.Compare a [op, op'] [b, c] pos) (chF g g' fa fb fc) := by
  obtain ⟨ta, pa, ra⟩ := ha.ex
  obtain ⟨tb, pb, rb⟩ := hb.ex
  obtain ⟨tc, pc, rc⟩ := hc.ex
  obtain ⟨r, po, ro⟩ := ho
  obtain ⟨r', po', ro'⟩ := ho'
  refine ⟨_, pe_chain po po' pa pb pc hm, fun σ H m env st Q s e h => ?_⟩
  refine ra σ H m env st _ s e (Post.bind h fun x st1 m1 x' H1 p1 k1 s1 r1 h1 => ?_)
  refine rb σ H1 m1 env st1 _ s1 (e.mono p1 k1) (Post.bind h1 fun y st2 m2 y' H2 p2 k2 s2 r2 h2 => ?_)
  refine ro H2 m2 st2 x y x' y' _ s2 (r1.mono p2 k2) r2 (Post.of (Post.bind h2 fun z st3 m3 z' H3 p3 k3 s3 r3 h3 => ?_))
  have h4 := Post.bind (rel := rB) (Q1 := fun k H4 => H4 = H3 → if k = true then tc σ H4 (fun u H5 => r' y' u H5 Q) else Q (.bl false) H4) h3 fun k st4 m4 k' H4 p4 k4 s4 r4 h4 e4 => by
    subst e4
    have rk : k = k' := r4
    subst rk
    cases k with
    | true =>
      rw [if_pos rfl] at h4 ⊢
      refine rc σ H4 m4 env st4 _ s4 (e.mono (((p1.trans p2).trans p3).trans p4) (((k1.trans k2).trans k3).trans k4)) (Post.bind h4 fun u st5 m5 u' H5 p5 k5 s5 r5 h5 => ?_)
      exact ro' H5 m5 st5 y u y' u' Q s5 (r2.mono ((p3.trans p4).trans p5) ((k3.trans k4).trans k5)) r5 h5.of
    | false =>
      rw [if_neg Bool.false_ne_true] at h4 ⊢
      exact h4.ok s4 (.bl false)
  obtain ⟨k, ek, q⟩ := asB_post h4 s3 r3
  subst ek
  exact ⟨k, rfl, q rfl⟩
theorem jt_val {e : Expr} {f : FE} (h : JE X W ca e f) (he : ∀ whole, isTrue e X.env whole = (do let v ← whole; standAt e.pos; holding [v] (truthy v)) := by intro _; rfl) : JT X W ca e (isB f) := by
  obtain ⟨t, p, r⟩ := h.ex
  refine ⟨_, pt_val p he, fun σ H m env st Q s e h => ?_⟩
  exact r σ H m env st _ s e (Post.bind h fun z st3 m3 z' H3 p3 k3 s3 r3 h3 => asB_post h3 s3 r3)
theorem truV_post {m : List Addr} {H : Hp} {E : Ex → Option Addr → Hp → Prop} {Q : Bool → Hp → Prop} {x : PV} {x' : V} {st : Store} (h : Post X.K ca rB E m H Q (truV x st)) (s : SR X.K ca H m st) (r : VR X.K ca H m x x') : ∃ k, TruV X.K x' H k ∧ Q k H := by
  have ie : ∀ {xs : List PV} {vs : List V}, VRs X.K ca H m xs vs → (!xs.isEmpty) = (!vs.isEmpty) := fun q => by cases q <;> rfl
  cases r with
  | non => exact ⟨false, rfl, h.ok s rfl⟩
  | bl b => exact ⟨b, rfl, h.ok s rfl⟩
  | int i => exact ⟨_, rfl, h.ok s rfl⟩
  | str x =>
    simp only [truV] at h
    split at h
    · rename_i hl
      exact ⟨_, ⟨hl, rfl⟩, h.ok s (by show (x.length != 0) = (((x.length : Nat) : Int) != 0); cases x.length with | zero => rfl | succ n => rw [show (n + 1 != 0) = true by simp]; symm; simp; omega)⟩
    · exact h.elim
  | tup hs rs => exact ⟨_, .inr (.inl ⟨_, hs, rfl⟩), h.ok s (ie rs)⟩
  | frz hs rs => exact ⟨_, .inl ⟨_, hs.sq, rfl⟩, h.ok s (ie rs)⟩
  | ref hn =>
    simp only [truV] at h
    split at h
    · rename_i xs hx
      obtain ⟨vs, e1, rs⟩ := s.at hx hn
      exact ⟨_, .inl ⟨_, SqL.of e1, rfl⟩, h.ok s (ie rs)⟩
    · rename_i kvs hx
      obtain ⟨vs, e1, rs⟩ := s.at hx hn
      refine ⟨_, .inr (.inr ⟨_, e1, rfl⟩), h.ok s ?_⟩
      show (!kvs.isEmpty) = (!vs.isEmpty)
      cases rs <;> rfl
    · exact h.elim
  | _ => exact h.elim
theorem jt_tru {e : Expr} {f : FE} (h : JE X W ca e f) (he : ∀ whole, isTrue e X.env whole = (do let v ← whole; standAt e.pos; holding [v] (truthy v)) := by intro _; rfl) : JT X W ca e (truT f) := by
  obtain ⟨t, p, r⟩ := h.ex
  refine ⟨_, pt_truth p he, fun σ H m env st Q s e h => ?_⟩
  exact r σ H m env st _ s e (Post.bind h fun z st3 m3 z' H3 p3 k3 s3 r3 h3 => truV_post h3 s3 r3)
theorem JW.jt {e : Expr} {f : FT} (h : JW X W ca e f) : JT X W ca e f := by
  obtain ⟨t, p, r⟩ := h.ex
  exact ⟨t, p.pt, r⟩
theorem jw_and1 {a : Expr} {pos : Pos} {f : FT} (ha : JT X W ca a f) : JW X W ca (.BoolOp .And [a] pos) f := by
  obtain ⟨t, p, r⟩ := ha.ex
  exact ⟨_, pw_and1 p, r⟩
theorem jw_or1 {a : Expr} {pos : Pos} {f : FT} (ha : JT X W ca a f) : JW X W ca (.BoolOp .Or [a] pos) f := by
  obtain ⟨t, p, r⟩ := ha.ex
  exact ⟨_, pw_or1 p, r⟩
theorem jw_and {a b : Expr} {rest : List Expr} {pos : Pos} {f g : FT} (ha : JT X W ca a f) (hb : JW X W ca (.BoolOp .And (b :: rest) pos) g) : JW X W ca (.BoolOp .And (a :: b :: rest) pos) (andT f g) := by
  obtain ⟨t, p, r⟩ := ha.ex
  obtain ⟨u, q, z⟩ := hb.ex
  refine ⟨_, pw_and p q, fun σ H m env st Q s e h => ?_⟩
  refine r σ H m env st _ s e (Post.bind h fun k st1 m1 k' H1 p1 k1 s1 r1 h1 => ?_)
  have rk : k = k' := r1
  subst rk
  cases k with
  | true => exact z σ H1 m1 env st1 Q s1 (e.mono p1 k1) h1
  | false => exact h1.ok s1 rfl
theorem jw_or {a b : Expr} {rest : List Expr} {pos : Pos} {f g : FT} (ha : JT X W ca a f) (hb : JW X W ca (.BoolOp .Or (b :: rest) pos) g) : JW X W ca (.BoolOp .Or (a :: b :: rest) pos) (orT f g) := by
  obtain ⟨t, p, r⟩ := ha.ex
  obtain ⟨u, q, z⟩ := hb.ex
  refine ⟨_, pw_or p q, fun σ H m env st Q s e h => ?_⟩
  refine r σ H m env st _ s e (Post.bind h fun k st1 m1 k' H1 p1 k1 s1 r1 h1 => ?_)
  have rk : k = k' := r1
  subst rk
  cases k with
  | true => exact h1.ok s1 rfl
  | false => exact z σ H1 m1 env st1 Q s1 (e.mono p1 k1) h1
theorem jt_not {a : Expr} {pos : Pos} {f : FT} (ha : JT X W ca a f) : JT X W ca (.UnaryOp .Not a pos) (notT f) := by
  obtain ⟨t, p, r⟩ := ha.ex
  refine ⟨_, pt_not p, fun σ H m env st Q s e h => ?_⟩
  refine r σ H m env st _ s e (Post.bind h fun k st1 m1 k' H1 p1 k1 s1 r1 h1 => ?_)
  have rk : k = k' := r1
  subst rk
  exact h1.ok s1 rfl
theorem je_one {op} {a : Expr} {pos : Pos} {f : FE} (ha : JE X W ca a f) : JE X W ca (.BoolOp op [a] pos) f := by
  obtain ⟨t, p, r⟩ := ha.ex
  exact ⟨_, pe_one p, r⟩
theorem je_and {a b : Expr} {rest : List Expr} {pos : Pos} {f g : FE} (ha : JE X W ca a f) (hb : JE X W ca (.BoolOp .And (b :: rest) pos) g) : JE X W ca (.BoolOp .And (a :: b :: rest) pos) (andF f g) := by
  obtain ⟨t, p, r⟩ := ha.ex
  obtain ⟨u, q, z⟩ := hb.ex
  refine ⟨_, pe_and p q, fun σ H m env st Q s e h => ?_⟩
  have h' : Post X.K ca (VR X.K ca) (EW W ca σ) m H Q ((f env st).bind fun x s1 => (asB x s1).bind fun k s1 => if k = true then g env s1 else .ok (.bl false) s1) := by
    unfold andF at h
    cases q : f env st <;> rw [q] at h <;> exact h
  refine r σ H m env st _ s e (Post.bind h' fun x st1 m1 x' H1 p1 k1 s1 r1 h1 => ?_)
  cases r1 with
  | bl k =>
    refine ⟨k, rfl, ?_⟩
    cases k with
    | true => exact z σ H1 m1 env st1 Q s1 (e.mono p1 k1) h1
    | false => exact h1.ok s1 (.bl false)
  | _ => exact h1.elim
theorem je_or {a b : Expr} {rest : List Expr} {pos : Pos} {f g : FE} (ha : JE X W ca a f) (hb : JE X W ca (.BoolOp .Or (b :: rest) pos) g) : JE X W ca (.BoolOp .Or (a :: b :: rest) pos) (orF f g) := by
  obtain ⟨t, p, r⟩ := ha.ex
  obtain ⟨u, q, z⟩ := hb.ex
  refine ⟨_, pe_or p q, fun σ H m env st Q s e h => ?_⟩
  have h' : Post X.K ca (VR X.K ca) (EW W ca σ) m H Q ((f env st).bind fun x s1 => (asB x s1).bind fun k s1 => if k = true then .ok (.bl true) s1 else g env s1) := by
    unfold orF at h
    cases q : f env st <;> rw [q] at h <;> exact h
  refine r σ H m env st _ s e (Post.bind h' fun x st1 m1 x' H1 p1 k1 s1 r1 h1 => ?_)
  cases r1 with
  | bl k =>
    refine ⟨k, rfl, ?_⟩
    cases k with
    | true => exact h1.ok s1 (.bl true)
    | false => exact z σ H1 m1 env st1 Q s1 (e.mono p1 k1) h1
  | _ => exact h1.elim
theorem je_not {a : Expr} {pos : Pos} {f : FE} (ha : JE X W ca a f) : JE X W ca (.UnaryOp .Not a pos) (notF f) := by
  obtain ⟨t, p, r⟩ := ha.ex
  refine ⟨_, pe_not p, fun σ H m env st Q s e h => ?_⟩
  have h' : Post X.K ca (VR X.K ca) (EW W ca σ) m H Q ((f env st).bind fun x s1 => (asB x s1).bind fun k s1 => .ok (.bl (!k)) s1) := by
    unfold notF at h
    cases q : f env st <;> rw [q] at h <;> exact h
  refine r σ H m env st _ s e (Post.bind h' fun x st1 m1 x' H1 p1 k1 s1 r1 h1 => ?_)
  cases r1 with
  | bl k => exact ⟨k, rfl, h1.ok s1 (.bl _)⟩
  | _ => exact h1.elim
theorem je_if {c a b : Expr} {pos : Pos} {fc : FT} {f g : FE} (hc : JT X W ca c fc) (ha : JE X W ca a f) (hb : JE X W ca b g) : JE X W ca (.IfExp c a b pos) (ifF fc f g) := by
  obtain ⟨tc, pc, rc⟩ := hc.ex
  obtain ⟨t, p, r⟩ := ha.ex
  obtain ⟨u, q, z⟩ := hb.ex
  refine ⟨_, pe_ifExp pc p q, fun σ H m env st Q s e h => ?_⟩
  refine rc σ H m env st _ s e (Post.bind h fun k st1 m1 k' H1 p1 k1 s1 r1 h1 => ?_)
  have rk : k = k' := r1
  subst rk
  cases k with
  | true => exact r σ H1 m1 env st1 Q s1 (e.mono p1 k1) h1
  | false => exact z σ H1 m1 env st1 Q s1 (e.mono p1 k1) h1

/-! ### argument lists, displays -/
theorem ja_nil : JA X W ca [] nilA := ⟨_, pa_nil, fun σ H m env st Q s e h => h.ok s .nil⟩
theorem ja_cons {e : Expr} {es : List Expr} {f : FE} {g : FA} (ha : JE X W ca e f) (hr : JA X W ca es g) (hs : starEach (e :: es) X.env = (false, eval e X.env) :: starEach es X.env := by rfl) : JA X W ca (e :: es) (consA f g) := by
  obtain ⟨t, p, r⟩ := ha.ex
  obtain ⟨u, q, z⟩ := hr.ex
  refine ⟨_, pa_cons p q hs, fun σ H m env st Q s e h => ?_⟩
  refine r σ H m env st _ s e (Post.bind h fun x st1 m1 x' H1 p1 k1 s1 r1 h1 => ?_)
  refine z σ H1 m1 env st1 _ s1 (e.mono p1 k1) (Post.bind h1 fun y st2 m2 y' H2 p2 k2 s2 r2 h2 => ?_)
  exact h2.ok s2 (.cons (r1.mono p2 k2) r2)
theorem upd_t {K : PySem.W.Frag} {ca : String → Addr} {H : Hp} {m : List Addr} {st : Store} {p : Addr} {xs : List PV} {vs : List V} (s : SR K ca H m st) (hp : H p = none) (r : VRs K ca H m xs vs) :
    Keep K H (upd H p (.tup vs)) ∧ SR K ca (upd H p (.tup vs)) m st ∧ VR K ca (upd H p (.tup vs)) m (.tup xs) (.ref p) :=
  ⟨Keep.new hp, s.skip hp, .tup (SqT.of upd_same) (r.mono (List.prefix_refl _) (Keep.new hp))⟩
theorem upd_l {K : PySem.W.Frag} {ca : String → Addr} {H : Hp} {m : List Addr} {st : Store} {p : Addr} {xs : List PV} {vs : List V} (s : SR K ca H m st) (hp : H p = none) (r : VRs K ca H m xs vs) :
    m <+: m ++ [p] ∧ Keep K H (upd H p (.lst vs)) ∧ SR K ca (upd H p (.lst vs)) (m ++ [p]) (st ++ [.lst xs]) ∧ VR K ca (upd H p (.lst vs)) (m ++ [p]) (.ref st.length) (.ref p) :=
  ⟨List.prefix_append _ _, Keep.new hp, s.new hp ⟨vs, upd_same, r.mono (List.prefix_append _ _) (Keep.new hp)⟩, .ref (by rw [← s.len, List.getElem?_append_right (Nat.le_refl _), Nat.sub_self]; rfl)⟩
theorem je_tup {es : List Expr} {x1} {pos : Pos} {f : FA} (h : JA X W ca es f) : JE X W ca (.Tuple es x1 pos) (tupF f) := by
  obtain ⟨t, p, r⟩ := h.ex
  refine ⟨_, pe_tup p, fun σ H m env st Q s e h => ?_⟩
  refine r σ H m env st _ s e (Post.bind h fun x st1 m1 x' H1 p1 k1 s1 r1 h1 => ?_)
  split at h1
  · rename_i hz
    refine ⟨by rw [← r1.length]; exact hz, fun q hq => ?_⟩
    obtain ⟨a, b, c⟩ := upd_t s1 hq r1
    exact h1 m1 _ _ (List.prefix_refl _) a b c
  · exact h1.elim
theorem je_lst {es : List Expr} {pos : Pos} {f : FA} (h : JA X W ca es f) : JE X W ca (.List es pos) (lstF f) := by
  obtain ⟨t, p, r⟩ := h.ex
  refine ⟨_, pe_lst p, fun σ H m env st Q s e h => ?_⟩
  refine r σ H m env st _ s e (Post.bind h fun x st1 m1 x' H1 p1 k1 s1 r1 h1 => ?_)
  split at h1
  · rename_i hz
    refine ⟨by rw [← r1.length]; exact hz, fun q hq => ?_⟩
    obtain ⟨a, b, c, d⟩ := upd_l s1 hq r1
    exact h1 _ _ _ a b c d
  · exact h1.elim

/-! ### calls -/
/-- a def's promise, from what it does on values -/
def spF (K : PySem.W.Frag) (ca : String → Addr) (n : Nat) (F : Fn) : Sp := fun vs H Q E => ∃ m st xs, SR K ca H m st ∧ VRs K ca H m xs vs ∧ xs.length = n ∧ Post K ca (VR K ca) (fun x d H' => E (.ref (ca x.c)) d H') m H Q (F xs st)
/-- a def that can be called: level, parameters, the defaults that fill up -/
structure Cal (P : Program) (w : World) (K : PySem.W.Frag) (mg : Str → Option Value) (base : Heap) (ca : String → Addr) (k : Nat) (f : Addr) (fd : FuncData) (ps : List Str) (F : Fn) : Prop where
  ok : FnOk P w K mg base (L2.CX P w) k f fd ps (spF K ca ps.length F)
  kp : PySem.W.keepIn K (.ref f) = true
/-- the defaults that fill up -/
structure Bnd (K : PySem.W.Frag) (ca : String → Addr) (fd : FuncData) (ps : List Str) (ds : List PV) : Prop where
  ex : ∃ (us : List Value) (vs : List V), Binds K fd ps us ∧ Vals vs us ∧ ∀ H m, VRs K ca H m ds vs
theorem Bnd.nil {K : PySem.W.Frag} {fd : FuncData} {ps : List Str} (b : Binds K fd ps []) : Bnd K ca fd ps [] := ⟨[], [], b, .nil, fun _ _ => .nil⟩
theorem je_call {k n : Nat} {f : Addr} {fd : FuncData} {ps : List Str} {F : Fn} {ds : List PV} {x : Str} {p pos : Pos} {e : Expr} {es : List Expr} {fa : FA} (tk : Takes X W) (C : Cal X.prog X.w X.K X.mg X.base ca k f fd ps F) (b : Bnd X.K ca fd ps ds) (hr : Room k X.A) (hm : X.mg x = some (.ref f))
    (ha : JA X W ca (e :: es) fa) (hn : ps.length = n := by rfl) (hg : Gl X x := by rfl) (hdb : (x == ("__debug__" : Str)) = false := by decide) (he : starEach (e :: es) X.env = (false, eval e X.env) :: starEach es X.env := by rfl) (hpl : (backTo pos (starEach es X.env)).any (·.1) = false := by rfl) :
    JE X W ca (.Call (.Name x p) (e :: es) [] pos) (callF n F ds fa) := by
  subst hn
  obtain ⟨t, pa, r⟩ := ha.ex
  obtain ⟨us, vs, hb, hd, rd⟩ := b.ex
  refine ⟨_, pe_callSD (E := WE W) C.ok hr hg hm C.kp hb hd (passAt tk) pa hdb he hpl, fun σ H m env st Q s e h => ?_⟩
  refine r σ H m env st _ s e (Post.bind h fun x st1 m1 x' H1 p1 k1 s1 r1 h1 => ?_)
  split at h1
  · rename_i hl
    exact ⟨m1, st1, _, s1, r1.append (rd H1 m1), hl, h1⟩
  · exact h1.elim
theorem je_callB {id : String} {g : List PV → Store → O PV} {x : Str} {p pos : Pos} {e : Expr} {es : List Expr} {fa : FA} (hc : CbF X ca (.builtin id) g) (hm : X.mg x = none) (hv : bootBuiltins x = some (.builtin id)) (ha : JA X W ca (e :: es) fa) (hg : Gl X x := by rfl) (hn : x ≠ "__name__" := by decide) (hdb : (x == ("__debug__" : Str)) = false := by decide)
    (he : starEach (e :: es) X.env = (false, eval e X.env) :: starEach es X.env := by rfl) (hpl : (backTo pos (starEach es X.env)).any (·.1) = false := by rfl) : JE X W ca (.Call (.Name x p) (e :: es) [] pos) (cbF g fa) := by
  obtain ⟨t, pa, r⟩ := ha.ex
  obtain ⟨rr, pc, rc⟩ := hc
  refine ⟨_, pe_callB pc hg hm hv pa hn hdb he hpl, fun σ H m env st Q s e h => ?_⟩
  refine r σ H m env st _ s e (Post.bind h fun x st1 m1 x' H1 p1 k1 s1 r1 h1 => ?_)
  exact rc H1 m1 st1 x x' Q s1 r1 h1.of
theorem je_callTy {T : String} {g : List PV → Store → O PV} {x : Str} {p pos : Pos} {e : Expr} {es : List Expr} {fa : FA} (hc : CbF X ca (.type T) g) (hm : X.mg x = none) (hv : bootBuiltins x = some (.type T)) (ha : JA X W ca (e :: es) fa) (hg : Gl X x := by rfl) (hn : x ≠ "__name__" := by decide) (hdb : (x == ("__debug__" : Str)) = false := by decide)
    (he : starEach (e :: es) X.env = (false, eval e X.env) :: starEach es X.env := by rfl) (hpl : (backTo pos (starEach es X.env)).any (·.1) = false := by rfl) : JE X W ca (.Call (.Name x p) (e :: es) [] pos) (cbF g fa) := by
  obtain ⟨t, pa, r⟩ := ha.ex
  obtain ⟨rr, pc, rc⟩ := hc
  refine ⟨_, pe_callTy pc hg hm hv pa hn hdb he hpl, fun σ H m env st Q s e h => ?_⟩
  refine r σ H m env st _ s e (Post.bind h fun x st1 m1 x' H1 p1 k1 s1 r1 h1 => ?_)
  exact rc H1 m1 st1 x x' Q s1 r1 h1.of
/-! ### subscripts -/
theorem je_ix {g : PV → PV → Store → O PV} {a b : Expr} {pos : Pos} {fa fb : FE} (hi : IxF X ca g) (ha : JE X W ca a fa) (hb : JE X W ca b fb) (hs : PlainIx b := by exact fun _ _ => rfl) : JE X W ca (.Subscript a b pos) (opF g fa fb) := by
  obtain ⟨ta, pa, ra⟩ := ha.ex
  obtain ⟨tb, pb, rb⟩ := hb.ex
  obtain ⟨r, po, ro⟩ := hi
  refine ⟨_, pe_ix po pa pb hs, fun σ H m env st Q s e h => ?_⟩
  refine ra σ H m env st _ s e (Post.bind h fun x st1 m1 x' H1 p1 k1 s1 r1 h1 => ?_)
  refine rb σ H1 m1 env st1 _ s1 (e.mono p1 k1) (Post.bind h1 fun y st2 m2 y' H2 p2 k2 s2 r2 h2 => ?_)
  exact ro H2 m2 st2 x y x' y' Q s2 (r1.mono p2 k2) r2 h2.of
end
end
end FL
end
section
set_option linter.all false
set_option maxRecDepth 100000
namespace FL
open PySem PySem.Spec PyProof.Rows L2
noncomputable section

/-! ## statements -/
def R.toS {α : Type} (r : R α) (e : Env) (g : α → Store → RS) : RS :=
  match r with
  | .ok a s => g a s
  | .er x s => .er x e s
  | .no => .no
def nxS : FS := fun e st => .nx e st
def bkS : FS := fun e st => .bk e st
def ctS : FS := fun e st => .ct e st
def seqS (f g : FS) : FS := fun e st => match f e st with
  | .nx e1 s1 => g e1 s1
  | r => r
def ifS (c : FT) (f g : FS) : FS := fun e st => (c e st).toS e fun k s1 => if k = true then f e s1 else g e s1
def dropS (f : FE) : FS := fun e st => (f e st).toS e fun _ s1 => .nx e s1
def retS (f : FE) : FS := fun e st => (f e st).toS e fun v s1 => .rt v s1
def retN : FS := fun _ st => .rt .non st
def setS (i : Nat) (f : FE) : FS := fun e st => (f e st).toS e fun v s1 => .nx (e.set i (some v)) s1
def augS (i : Nat) (g : PV → PV → Store → O PV) (f : FE) : FS := fun e st => match e[i]? with
  | some (some x) => (f e st).toS e fun y s1 => (R.of (g x y s1)).toS e fun z s2 => .nx (e.set i (some z)) s2
  | _ => .no
def nameG (i : Nat) : FG := fun v e => some (e.set i (some v))
def nilG : List PV → Env → Option Env := fun vs e => match vs with
  | [] => some e
  | _ => none
def consG (g : FG) (h : List PV → Env → Option Env) : List PV → Env → Option Env := fun vs e => match vs with
  | v :: r => (g v e).bind fun e1 => h r e1
  | [] => none
def tupG (n : Nat) (h : List PV → Env → Option Env) : FG := fun v e => match v with
  | .tup xs => if xs.length = n then h xs e else none
  | _ => none
def asgS (g : FG) (f : FE) : FS := fun e st => (f e st).toS e fun v s1 => match g v e with
  | some e1 => .nx e1 s1
  | none => .no
/-- o[i] = v: the value first -/
def subS (g : PV → PV → PV → Store → Option Store) (fv fo fi : FE) : FS := fun e st => (fv e st).toS e fun v s1 => (fo e s1).toS e fun o s2 => (fi e s2).toS e fun i s3 => match g o i v s3 with
  | some s4 => .nx e s4
  | none => .no

section
variable {K : PySem.W.Frag} {ca : String → Addr} {m m' : List Addr} {H H' : Hp}
theorem Post.toS {α β : Type} {rel : Hp → List Addr → α → β → Prop} {E : Ex → Option Addr → L2.St → Hp → Prop} {Q1 : β → Hp → Prop} {D : Ends} {r : R α} {env : Env} {σ : L2.St} {g : α → Store → RS}
    (h : PostS K ca E m H D (r.toS env g)) (e : ER K ca H m env σ)
    (f : ∀ a st1 m1 b H1, m <+: m1 → Keep K H H1 → SR K ca H1 m1 st1 → rel H1 m1 a b → PostS K ca E m1 H1 D (g a st1) → Q1 b H1) : Post K ca rel (fun x d H => E x d σ H) m H Q1 r := by
  cases r with
  | ok a st => exact fun m1 b H1 p k s q => f a st m1 b H1 p k s q (PostS.mono h p k)
  | er x st => exact fun m1 d H1 p k s q => h m1 d σ H1 p k s (e.mono p k) q
  | no => exact h
theorem PostS.nx {E : Ex → Option Addr → L2.St → Hp → Prop} {D : Ends} {env : Env} {σ : L2.St} {st : Store} (h : PostS K ca E m H D (.nx env st)) (s : SR K ca H m st) (e : ER K ca H m env σ) : D.nx σ H :=
  h m σ H (List.prefix_refl _) Keep.refl s e
theorem ER.set {env : Env} {σ : L2.St} {v : PV} {w : V} (e : ER K ca H m env σ) (r : VR K ca H m v w) (i : Nat) : ER K ca H m (env.set i (some v)) (σ.set i (some w)) := by
  refine ⟨by rw [List.length_set, List.length_set, e.1], fun j u q => ?_⟩
  by_cases hj : i = j
  · subst hj
    have hi : i < env.length := by
      have := (List.getElem?_eq_some_iff.mp q).1
      rwa [List.length_set] at this
    rw [List.getElem?_set_self hi] at q
    cases q
    exact ⟨w, by rw [List.getElem?_set_self (by rw [← e.1]; exact hi)], r⟩
  · rw [List.getElem?_set_ne hj] at q ⊢
    exact e.2 j u q
end

section
variable {X : Cx} {W : WX} {ca : String → Addr} {pos : Pos}
theorem jss_nil : JSs X W ca [] nxS := ⟨_, pss_nil, fun σ H m env st D s e h => h.nx s e⟩
theorem jss_cons {s : Stmt} {rest : List Stmt} {f g : FS} (h1 : JS X W ca s f) (h2 : JSs X W ca rest g) : JSs X W ca (s :: rest) (seqS f g) := by
  obtain ⟨t, p, r⟩ := h1.ex
  obtain ⟨u, q, z⟩ := h2.ex
  refine ⟨_, pss_cons p q, fun σ H m env st D s e h => ?_⟩
  refine r σ H m env st _ s e ?_
  unfold seqS at h
  cases c : f env st with
  | nx e1 s1 =>
    rw [c] at h
    exact fun m1 σ1 H1 p1 k1 s2 e2 => z σ1 H1 m1 e1 s1 D s2 e2 (PostS.mono h p1 k1)
  | rt v s1 => rw [c] at h; exact h
  | bk e1 s1 => rw [c] at h; exact h
  | ct e1 s1 => rw [c] at h; exact h
  | er x e1 s1 => rw [c] at h; exact h
  | no => rw [c] at h; exact h
theorem jss_one {s : Stmt} {f : FS} (h1 : JS X W ca s f) : JSs X W ca [s] f := by
  obtain ⟨t, p, r⟩ := h1.ex
  exact ⟨_, pss_one p, r⟩
theorem js_pass : JS X W ca (.Pass pos) nxS := ⟨_, ps_pass, fun σ H m env st D s e h => h.nx s e⟩
theorem js_break : JS X W ca (.Break pos) bkS := ⟨_, ps_break, fun σ H m env st D s e h => h m σ H (List.prefix_refl _) Keep.refl s e⟩
theorem js_continue : JS X W ca (.Continue pos) ctS := ⟨_, ps_continue, fun σ H m env st D s e h => h m σ H (List.prefix_refl _) Keep.refl s e⟩
theorem js_doc {x j pos pos'} : JS X W ca (.Expr (.Constant (.str x) j pos) pos') nxS := ⟨_, ps_doc, fun σ H m env st D s e h => h.nx s e⟩
theorem js_expr {e : Expr} {f : FE} (he : JE X W ca e f) (hs : swapsWith e none pos.line X.env = pure false := by rfl) : JS X W ca (.Expr e pos) (dropS f) := by
  obtain ⟨t, p, r⟩ := he.ex
  refine ⟨_, ps_expr p hs, fun σ H m env st D s e h => ?_⟩
  exact r σ H m env st _ s e (Post.toS h e fun v st1 m1 w H1 p1 k1 s1 r1 h1 => h1.nx s1 (e.mono p1 k1))
theorem js_ret {e : Expr} {f : FE} (he : JE X W ca e f) : JS X W ca (.Return (some e) pos) (retS f) := by
  obtain ⟨t, p, r⟩ := he.ex
  refine ⟨_, ps_ret p, fun σ H m env st D s e h => ?_⟩
  exact r σ H m env st _ s e (Post.toS h e fun v st1 m1 w H1 p1 k1 s1 r1 h1 => h1 m1 w H1 (List.prefix_refl _) Keep.refl s1 r1)
theorem js_retN : JS X W ca (.Return none pos) retN := ⟨_, ps_retN, fun σ H m env st D s e h => h m .non H (List.prefix_refl _) Keep.refl s .non⟩
theorem js_if {c : Expr} {a b : List Stmt} {fc : FT} {f g : FS} (hc : JT X W ca c fc) (ha : JSs X W ca a f) (hb : JSs X W ca b g) : JS X W ca (.If c a b pos) (ifS fc f g) := by
  obtain ⟨tc, pc, rc⟩ := hc.ex
  obtain ⟨t, p, r⟩ := ha.ex
  obtain ⟨u, q, z⟩ := hb.ex
  refine ⟨_, ps_if pc p q, fun σ H m env st D s e h => ?_⟩
  refine rc σ H m env st _ s e (Post.toS h e fun k st1 m1 k' H1 p1 k1 s1 r1 h1 => ?_)
  have rk : k = k' := r1
  subst rk
  cases k with
  | true => exact r σ H1 m1 env st1 D s1 (e.mono p1 k1) h1
  | false => exact z σ H1 m1 env st1 D s1 (e.mono p1 k1) h1
theorem js_set {i : Nat} {x : Str} {e : Expr} {f : FE} {pos' : Pos} (hN : X.N.Nodup) (he : JE X W ca e f) (hi : X.N[i]? = some x := by rfl) (hx : Loc X.env.scope x := by first | exact Or.inl rfl | exact Or.inr rfl) (hs : swapsWith e (some (.Name x pos')) pos.line X.env = pure false := by rfl) (hf : X.fn x = true ∨ X.env.scope.names.lookup x = some .local := by first | exact .inl rfl | exact .inr rfl | assumption) :
    JS X W ca (.Assign [.Name x pos'] e pos) (setS i f) := by
  obtain ⟨t, p, r⟩ := he.ex
  refine ⟨_, ps_set hN hi hx p hs hf, fun σ H m env st D s e h => ?_⟩
  refine r σ H m env st _ s e (Post.toS h e fun v st1 m1 w H1 p1 k1 s1 r1 h1 => ?_)
  exact h1.nx s1 ((e.mono p1 k1).set r1 i)
theorem js_aug {i : Nat} {x : Str} {e : Expr} {f : FE} {op : Operator} {g : PV → PV → Store → O PV} {pos' : Pos} (hN : X.N.Nodup) (ho : OpF X ca (inplaceOp op) g) (he : JE X W ca e f) (hi : X.N[i]? = some x := by rfl) (hx : Loc X.env.scope x := by first | exact Or.inl rfl | exact Or.inr rfl) (hf : X.fn x = true ∨ X.env.scope.names.lookup x = some .local := by first | exact .inl rfl | exact .inr rfl | assumption) :
    JS X W ca (.AugAssign (.Name x pos') op e pos) (augS i g f) := by
  obtain ⟨t, p, r⟩ := he.ex
  obtain ⟨rr, po, ro⟩ := ho
  refine ⟨_, ps_aug (ti := rr) hN hi hx p (fun pins s σ H x y v u Q I rx ry q => po pins s σ H x y v u Q I rx ry q) hf, fun σ H m env st D s e h => ?_⟩
  unfold augS at h
  split at h
  · rename_i x hx
    obtain ⟨w, h1, h2⟩ := e.2 i x hx
    refine ⟨w, h1, ?_⟩
    refine r σ H m env st _ s e (Post.toS h e fun y st1 m1 y' H1 p1 k1 s1 r1 h3 => ?_)
    refine ro H1 m1 st1 x y w y' _ s1 (h2.mono p1 k1) r1 (Post.of (Post.toS h3 (e.mono p1 k1) fun z st2 m2 z' H2 p2 k2 s2 r2 h4 => ?_))
    exact h4.nx s2 ((e.mono (p1.trans p2) (k1.trans k2)).set r2 i)
  · exact h.elim

/-! ### targets -/
/-- sl: the slots that are written -/
structure JG' (X : Cx) (ca : String → Addr) (tg : Expr) (sl : List Nat) (g : FG) : Prop where
  ex : ∃ t, PG X tg t ∧ ∀ σ H m env v w env' Q, ER X.K ca H m env σ → VR X.K ca H m v w → g v env = some env' → (∀ σ', ER X.K ca H m env' σ' → (σ'.length = σ.length ∧ ∀ j, j ∉ sl → σ'[j]? = σ[j]?) → Q σ' H) → t w σ H Q
structure JGs' (X : Cx) (ca : String → Addr) (tgs : List Expr) (sl : List Nat) (g : List PV → Env → Option Env) : Prop where
  ex : ∃ t, PGs X tgs t ∧ ∀ σ H m env v w env' Q, ER X.K ca H m env σ → VRs X.K ca H m v w → g v env = some env' → (∀ σ', ER X.K ca H m env' σ' → (σ'.length = σ.length ∧ ∀ j, j ∉ sl → σ'[j]? = σ[j]?) → Q σ' H) → t w σ H Q
theorem jg_name {i : Nat} {x : Str} (hN : X.N.Nodup) (hi : X.N[i]? = some x := by rfl) (hx : Loc X.env.scope x := by first | exact Or.inl rfl | exact Or.inr rfl) (hf : X.fn x = true ∨ X.env.scope.names.lookup x = some .local := by first | exact .inl rfl | exact .inr rfl | assumption) :
    JG' X ca (.Name x pos) [i] (nameG i) :=
  ⟨_, pg_name hN hi hx hf, fun σ H m env v w env' Q e r hg q => by
    cases hg
    refine q _ (e.set r i) ⟨List.length_set, fun j hj => ?_⟩
    rw [List.getElem?_set_ne (fun z => hj (List.mem_singleton.mpr z.symm))]⟩
theorem jgs_nil : JGs' X ca [] [] nilG := ⟨_, pgs_nil, fun σ H m env v w env' Q e r hg q => by
  cases r with
  | nil => cases hg; exact ⟨rfl, q _ e ⟨rfl, fun _ _ => rfl⟩⟩
  | cons a b => cases hg⟩
theorem jgs_cons {e : Expr} {es : List Expr} {sl sl2 : List Nat} {g : FG} {h : List PV → Env → Option Env} (h1 : JG' X ca e sl g) (h2 : JGs' X ca es sl2 h)
    (hs : (assignEach (e :: es) X.env).map (·.2) = assign e X.env :: (assignEach es X.env).map (·.2) := by rfl) : JGs' X ca (e :: es) (sl ++ sl2) (consG g h) := by
  obtain ⟨t, p, r⟩ := h1.ex
  obtain ⟨u, q, z⟩ := h2.ex
  refine ⟨_, pgs_cons p q hs, fun σ H m env v w env' Q e rv hg k => ?_⟩
  cases rv with
  | nil => cases hg
  | cons ra rb =>
    rename_i x v xs vs
    unfold consG at hg
    simp only at hg
    cases c : g x env with
    | none => rw [c] at hg; cases hg
    | some e1 =>
      rw [c] at hg
      refine ⟨v, vs, rfl, r σ H m env x v e1 _ e ra c fun σ1 e2 n1 => ?_⟩
      refine z σ1 H m e1 xs vs env' Q e2 rb hg fun σ2 e3 n2 => k σ2 e3 ⟨n2.1.trans n1.1, fun j hj => ?_⟩
      rw [List.mem_append, not_or] at hj
      rw [n2.2 j hj.2, n1.2 j hj.1]
theorem jg_tup {es : List Expr} {k : Nat} {sl : List Nat} {h : List PV → Env → Option Env} {n : Nat} (hc : X.calm = true) (hg : JGs' X ca es sl h)
    (hn : (assignEach es X.env).length = n := by rfl) (hst : (assignEach es X.env).findIdx? (·.1) = none := by rfl) : JG' X ca (.Tuple es k pos) sl (tupG n h) := by
  obtain ⟨t, p, r⟩ := hg.ex
  refine ⟨_, pg_tup hc p hn hst, fun σ H m env v w env' Q e rv hh q => ?_⟩
  cases rv with
  | tup hs rs =>
    rename_i xs a vs
    simp only [tupG] at hh
    split at hh
    · rename_i hl
      exact ⟨a, vs, rfl, hs, by rw [← rs.length]; exact hl, r σ H m env xs vs env' Q e rs hh q⟩
    · cases hh
  | _ => cases hh
theorem js_asg {tg e : Expr} {sl : List Nat} {f : FE} {g : FG} (he : JE X W ca e f) (hg : JG' X ca tg sl g) (hs : swapsWithSole [tg] e pos.line X.env = pure false := by rfl) (hw : swappedStores [tg] e X.env = pure none := by rfl)
    (h1 : (assignEach [tg] X.env).map (·.2) = [assign tg X.env] := by rfl) : JS X W ca (.Assign [tg] e pos) (asgS g f) := by
  obtain ⟨t, p, r⟩ := he.ex
  obtain ⟨u, q, z⟩ := hg.ex
  refine ⟨_, ps_asg p q hs hw h1, fun σ H m env st D s e h => ?_⟩
  refine r σ H m env st _ s e (Post.toS h e fun v st1 m1 w H1 p1 k1 s1 r1 h2 => ?_)
  cases c : g v env with
  | none => rw [c] at h2; exact h2.elim
  | some e1 =>
    rw [c] at h2
    exact z σ H1 m1 env v w e1 _ (e.mono p1 k1) r1 c fun σ' e' _ => h2.nx s1 e'
/-- a store by values -/
def SetF (X : Cx) (ca : String → Addr) (g : PV → PV → PV → Store → Option Store) : Prop :=
  ∃ t, PSet X t ∧ ∀ H m st o i v o' i' v' st' Q, SR X.K ca H m st → VR X.K ca H m o o' → VR X.K ca H m i i' → VR X.K ca H m v v' → g o i v st = some st' → (∀ H', Keep X.K H H' → SR X.K ca H' m st' → Q H') → t o' i' v' H Q
theorem js_sub {o i e : Expr} {g : PV → PV → PV → Store → Option Store} {fv fo fi : FE} {pos' : Pos} (hs : SetF X ca g) (he : JE X W ca e fv) (ho : JE X W ca o fo) (hi : JE X W ca i fi)
    (ha : ∀ v, assign (.Subscript o i pos') X.env v = (do
      let ov ← holding [v] (eval o X.env)
      let iv ← holding [v, ov] (eval i X.env)
      standAt pos'
      holding [v, ov, iv] (setItem ov iv v)
      release [v, ov, iv] []) := by intro _; rfl)
    (hs1 : swapsWithSole [.Subscript o i pos'] e pos.line X.env = pure false := by rfl) (hw : swappedStores [.Subscript o i pos'] e X.env = pure none := by rfl)
    (h1 : (assignEach [.Subscript o i pos'] X.env).map (·.2) = [assign (.Subscript o i pos') X.env] := by rfl) : JS X W ca (.Assign [.Subscript o i pos'] e pos) (subS g fv fo fi) := by
  obtain ⟨t, p, r⟩ := he.ex
  obtain ⟨to, po, ro⟩ := ho.ex
  obtain ⟨ti, pi, ri⟩ := hi.ex
  obtain ⟨ts, pS, rs⟩ := hs
  refine ⟨_, ps_asg p (pg_sub po pi pS ha) hs1 hw h1, fun σ H m env st D s e h => ?_⟩
  refine r σ H m env st _ s e (Post.toS h e fun v st1 m1 v' H1 p1 k1 s1 r1 h2 => ?_)
  refine ro σ H1 m1 env st1 _ s1 (e.mono p1 k1) (Post.toS h2 (e.mono p1 k1) fun ov st2 m2 o' H2 p2 k2 s2 r2 h3 => ?_)
  have e2 := (e.mono p1 k1).mono p2 k2
  refine ri σ H2 m2 env st2 _ s2 e2 (Post.toS h3 e2 fun iv st3 m3 i' H3 p3 k3 s3 r3 h4 => ?_)
  cases c : g ov iv v st3 with
  | none => rw [c] at h4; exact h4.elim
  | some st4 =>
    rw [c] at h4
    refine rs H3 m3 st3 ov iv v o' i' v' st4 _ s3 (r2.mono p3 k3) r3 (r1.mono (p2.trans p3) (k2.trans k3)) c fun H4 k4 s4 => ?_
    exact h4 m3 σ H4 (List.prefix_refl _) k4 s4 ((e2.mono p3 k3).mono (List.prefix_refl _) k4)

/-! ### what is walked -/
structure Wk where
  its : List PV
  gd : List (Nat × PO)
abbrev FI := Env → Store → R Wk
def GdOk (gd : List (Nat × PO)) (st : Store) : Prop := ∀ p ∈ gd, st[p.1]? = some p.2
def ItR (K : PySem.W.Frag) (ca : String → Addr) (H : Hp) (m : List Addr) (k : Wk) (J : It) : Prop := ∀ (i : Nat) m' H' st', m <+: m' → Keep K H H' → SR K ca H' m' st' → GdOk k.gd st' →
  (∀ v, k.its[i]? = some v → J.go i H' ∧ ∀ x H'', J.yld i H' x H'' → Keep K H' H'' ∧ SR K ca H'' m' st' ∧ VR K ca H'' m' v x) ∧ (k.its.length ≤ i → J.stop i H')
structure JI (X : Cx) (W : WX) (ca : String → Addr) (tg iter : Expr) (f : FI) : Prop where
  ex : ∃ t, PI X tg iter t ∧ ∀ σ H m env st Q, SR X.K ca H m st → ER X.K ca H m env σ → Post X.K ca (ItR X.K ca) (EW W ca σ) m H Q (f env st) → t σ H Q
open Classical in
def forL (gd : List (Nat × PO)) (g : FG) (b : FS) : List PV → FS
  | [] => fun e st => if GdOk gd st then .nx e st else .no
  | x :: xs => fun e st => if GdOk gd st then
      (match g x e with
        | none => .no
        | some e1 => match b e1 st with
          | .nx e2 s2 => forL gd g b xs e2 s2
          | .ct e2 s2 => forL gd g b xs e2 s2
          | .bk e2 s2 => .nx e2 s2
          | r => r)
      else .no
def forS (fi : FI) (g : FG) (b : FS) : FS := fun e st => (fi e st).toS e fun k s1 => forL k.gd g b k.its e s1
theorem js_for {iter tg : Expr} {body : List Stmt} {sl : List Nat} {fi : FI} {g : FG} {b : FS} (hp : PassesOwn (model X.prog X.w) X.A X.env X.xe) (hc : X.calm = true) (hi : JI X W ca tg iter fi) (hg : JG' X ca tg sl g) (hb : JSs X W ca body b) (hs : ∀ x, foldedSetIterable iter X.env x = pure x := by intro _; rfl) :
    JS X W ca (.For tg iter body [] pos) (forS fi g b) := by
  obtain ⟨ti, pi, ri⟩ := hi.ex
  obtain ⟨tg', pg, rg⟩ := hg.ex
  obtain ⟨tb, pb, rb⟩ := hb.ex
  refine ⟨_, ps_for hp hc pi pg pb hs, fun σ H m env st D s e h => ?_⟩
  refine ri σ H m env st _ s e (Post.toS h e fun k st1 m1 J H1 p1 k1 s1 r1 h1 => ?_)
  refine ⟨fun i n σ' H' => ∃ m' env' st', m1 <+: m' ∧ Keep X.K H1 H' ∧ SR X.K ca H' m' st' ∧ ER X.K ca H' m' env' σ' ∧ i + n = k.its.length ∧ PostS X.K ca (EWs W ca) m' H' D (forL k.gd g b (k.its.drop i) env' st'),
    ⟨k.its.length, m1, env, st1, List.prefix_refl _, Keep.refl, s1, e.mono p1 k1, Nat.zero_add _, h1⟩, ?_⟩
  rintro i n σ' H' ⟨m', env', st', pm, km, s', e', en, h'⟩
  by_cases hlt : i < k.its.length
  · obtain ⟨v, hv⟩ : ∃ v, k.its[i]? = some v := ⟨_, List.getElem?_eq_getElem hlt⟩
    have hd : k.its.drop i = v :: k.its.drop (i + 1) := by
      have e1 := List.drop_eq_getElem_cons hlt
      rw [List.getElem?_eq_getElem hlt] at hv
      cases hv
      exact e1
    rw [hd] at h'
    unfold forL at h'
    split at h'
    · rename_i hgd
      obtain ⟨hgo, hy⟩ := (r1 i m' H' st' pm km s' hgd).1 v hv
      refine .inr ⟨hgo, fun σ2 H2 => ∃ m' env' st', m1 <+: m' ∧ Keep X.K H1 H2 ∧ SR X.K ca H2 m' st' ∧ ER X.K ca H2 m' env' σ2 ∧ (i + 1) + (n - 1) = k.its.length ∧ PostS X.K ca (EWs W ca) m' H2 D (forL k.gd g b (k.its.drop (i + 1)) env' st'), fun σ2 H2 hN => ⟨n - 1, by omega, hN⟩, fun x H2 hyl => ?_⟩
      obtain ⟨k2, s2, r2⟩ := hy x H2 hyl
      cases c : g v env' with
      | none => rw [c] at h'; exact h'.elim
      | some e1 =>
        rw [c] at h'
        refine rg σ' H2 m' env' v x e1 _ (e'.mono (List.prefix_refl _) k2) r2 c fun σ3 e3 _ => ?_
        refine rb σ3 H2 m' e1 st' _ s2 e3 ?_
        have h3 := PostS.mono h' (List.prefix_refl _) k2
        simp only at h3
        cases q : b e1 st' with
        | nx e4 s4 =>
          rw [q] at h3
          exact fun m5 σ5 H5 p5 k5 s5 e5 => ⟨m5, e4, s4, pm.trans p5, (km.trans k2).trans k5, s5, e5, by omega, PostS.mono h3 p5 k5⟩
        | ct e4 s4 =>
          rw [q] at h3
          exact fun m5 σ5 H5 p5 k5 s5 e5 => ⟨m5, e4, s4, pm.trans p5, (km.trans k2).trans k5, s5, e5, by omega, PostS.mono h3 p5 k5⟩
        | bk e4 s4 => rw [q] at h3; exact h3
        | rt v4 s4 => rw [q] at h3; exact h3
        | er x4 e4 s4 => rw [q] at h3; exact h3
        | no => rw [q] at h3; exact h3
    · exact h'.elim
  · rw [List.drop_eq_nil_of_le (by omega)] at h'
    unfold forL at h'
    split at h'
    · rename_i hgd
      exact .inl ⟨(r1 i m' H' st' pm km s' hgd).2 (by omega), h'.nx s' e'⟩
    · exact h'.elim

/-! ### while -/
def whL (c : FT) (b : FS) : Nat → FS
  | 0 => fun _ _ => .no
  | n + 1 => fun e st => (c e st).toS e fun k s1 => if k = true then
      (match b e s1 with
        | .nx e2 s2 => whL c b n e2 s2
        | .ct e2 s2 => whL c b n e2 s2
        | .bk e2 s2 => .nx e2 s2
        | r => r)
      else .nx e s1
@[irreducible] def FUEL : Nat := 1000000
theorem FUEL_eq : FUEL = 1000000 := by unfold FUEL; rfl
def whS (c : FT) (b : FS) : FS := whL c b FUEL
theorem js_while {c : Expr} {body : List Stmt} {fc : FT} {b : FS} (hp : PassesOwn (model X.prog X.w) X.A X.env X.xe) (hc : JT X W ca c fc) (hb : JSs X W ca body b) : JS X W ca (.While c body [] pos) (whS fc b) := by
  obtain ⟨tc, pc, rc⟩ := hc.ex
  obtain ⟨tb, pb, rb⟩ := hb.ex
  refine ⟨_, ps_while hp pc pb, fun σ H m env st D s e h => ?_⟩
  refine ⟨fun n σ' H' => ∃ m' env' st', SR X.K ca H' m' st' ∧ ER X.K ca H' m' env' σ' ∧ PostS X.K ca (EWs W ca) m' H' D (whL fc b n env' st'), ⟨FUEL, m, env, st, s, e, h⟩, ?_⟩
  rintro n σ' H' ⟨m', env', st', s', e', h'⟩
  cases n with
  | zero => exact h'.elim
  | succ n =>
    unfold whL at h'
    refine rc σ' H' m' env' st' _ s' e' (Post.toS h' e' fun k st1 m1 k' H1 p1 k1 s1 r1 h1 => ?_)
    have rk : k = k' := r1
    subst rk
    cases k with
    | false => exact h1.nx s1 (e'.mono p1 k1)
    | true =>
      rw [if_pos rfl] at h1 ⊢
      refine ⟨fun σ2 H2 => ∃ m' env' st', SR X.K ca H2 m' st' ∧ ER X.K ca H2 m' env' σ2 ∧ PostS X.K ca (EWs W ca) m' H2 D (whL fc b n env' st'), fun σ2 H2 hN => ⟨n, Nat.lt_succ_self _, hN⟩, ?_⟩
      refine rb σ' H1 m1 env' st1 _ s1 (e'.mono p1 k1) ?_
      cases q : b env' st1 with
      | nx e4 s4 =>
        rw [q] at h1
        exact fun m5 σ5 H5 p5 k5 s5 e5 => ⟨m5, e4, s4, s5, e5, PostS.mono h1 p5 k5⟩
      | ct e4 s4 =>
        rw [q] at h1
        exact fun m5 σ5 H5 p5 k5 s5 e5 => ⟨m5, e4, s4, s5, e5, PostS.mono h1 p5 k5⟩
      | bk e4 s4 => rw [q] at h1; exact h1
      | rt v4 s4 => rw [q] at h1; exact h1
      | er x4 e4 s4 => rw [q] at h1; exact h1
      | no => rw [q] at h1; exact h1
end
end
end FL
end
section
set_option linter.all false
set_option maxRecDepth 100000
namespace FL
open PySem PySem.Spec PyProof.Rows L2
noncomputable section

/-! ## comprehensions -/
def wipeE (e : Env) : List Nat → Env
  | [] => e
  | v :: vs => (wipeE e vs).set v none
theorem ER.wipe {K : PySem.W.Frag} {ca : String → Addr} {m : List Addr} {H : Hp} {e : Env} {σ : L2.St} (h : ER K ca H m e σ) : ∀ vs : List Nat, ER K ca H m (wipeE e vs) (wipe σ vs)
  | [] => h
  | v :: vs => by
    have ih := h.wipe vs
    unfold wipeE L2.wipe
    refine ⟨by rw [List.length_set, List.length_set, ih.1], fun j u q => ?_⟩
    by_cases hj : v = j
    · subst hj
      by_cases hv : v < (wipeE e vs).length
      · rw [List.getElem?_set_self hv] at q; cases q
      · rw [List.getElem?_eq_none (by simpa using hv)] at q; cases q
    · rw [List.getElem?_set_ne hj] at q ⊢
      exact ih.2 j u q
theorem wipe_at {σ : L2.St} {j : Nat} : ∀ {vs : List Nat}, (wipe σ vs)[j]? = if j ∈ vs then (if j < σ.length then some none else none) else σ[j]?
  | [] => by simp [wipe]
  | v :: vs => by
    unfold L2.wipe
    by_cases hj : v = j
    · subst hj
      rw [if_pos List.mem_cons_self]
      by_cases hv : v < σ.length
      · rw [if_pos hv, List.getElem?_set_self (by rw [wipe_length]; exact hv)]
      · rw [if_neg hv, List.getElem?_eq_none (by rw [List.length_set, wipe_length]; omega)]
    · rw [List.getElem?_set_ne hj, wipe_at (vs := vs)]
      have : (j ∈ v :: vs) ↔ j ∈ vs := by
        rw [List.mem_cons]
        exact ⟨fun q => q.resolve_left fun z => hj z.symm, .inr⟩
      simp only [this]
theorem wipe_same {σ τ : L2.St} {vs sl : List Nat} (hl : τ.length = σ.length) (hs : ∀ j ∈ sl, j ∈ vs) (h : ∀ j, j ∉ sl → τ[j]? = (wipe σ vs)[j]?) : wipe τ vs = wipe σ vs := by
  apply List.ext_getElem?
  intro j
  rw [wipe_at, wipe_at]
  by_cases hj : j ∈ vs
  · rw [if_pos hj, if_pos hj, hl]
  · rw [if_neg hj, if_neg hj, h j fun z => hj (hs j z), wipe_at, if_neg hj]
open Classical in
def lcL (gd : List (Nat × PO)) (g : FG) (ft : FT) (fe : FE) (n : Nat) (e0 : Env) : List PV → Store → O PV
  | [], st => if GdOk gd st then some (.ref n, st) else none
  | x :: xs, st => if GdOk gd st then
      (match g x e0 with
        | none => none
        | some e1 => match ft e1 st with
          | .ok true s1 => (match fe e1 s1 with
            | .ok v s2 => (match s2[n]? with
              | some (.lst acc) => if acc.length < sizeLine then lcL gd g ft fe n e0 xs (s2.set n (.lst (acc ++ [v]))) else none
              | _ => none)
            | _ => none)
          | .ok false s1 => lcL gd g ft fe n e0 xs s1
          | _ => none)
      else none
def yesT : FT := fun _ st => .ok true st
def lcF (fi : FI) (own : List Nat) (g : FG) (ft : FT) (fe : FE) : FE := fun e st => (fi e st).bind fun k s1 => R.of (lcL k.gd g ft fe s1.length (wipeE e own) k.its (s1 ++ [.lst []]))

section
variable {X : Cx} {W : WX} {ca : String → Addr} {pos : Pos}
abbrev W0 : WX := fun _ _ _ _ => False
/-- a clause's tests -/
structure JTs (X : Cx) (W : WX) (ca : String → Addr) (es : List Expr) (f : FT) : Prop where
  ex : ∃ t, PTs X es t ∧ ∀ σ H m env st Q, SR X.K ca H m st → ER X.K ca H m env σ → Post X.K ca rB (EW W ca σ) m H Q (f env st) → t σ H Q
theorem jts_nil : JTs X W ca [] yesT := ⟨_, pts_nil, fun σ H m env st Q s e h => h.ok s rfl⟩
theorem jts_one {c : Expr} {f : FT} (h : JT X W ca c f) : JTs X W ca [c] f := by
  obtain ⟨t, p, r⟩ := h.ex
  exact ⟨_, pts_one p, r⟩
/-- what a comprehension's reading asks, from what it does -/
theorem lc_ok {ti : TI} {tg : TG} {tt : TT} {te : TE} {fi : FI} {own sl : List Nat} {g : FG} {ft : FT} {fe : FE} (hsl : ∀ j ∈ sl, j ∈ own)
    (ri : ∀ σ H m env st Q, SR X.K ca H m st → ER X.K ca H m env σ → Post X.K ca (ItR X.K ca) (EW W ca σ) m H Q (fi env st) → ti σ H Q)
    (rg : ∀ σ H m env v w env' Q, ER X.K ca H m env σ → VR X.K ca H m v w → g v env = some env' → (∀ σ', ER X.K ca H m env' σ' → (σ'.length = σ.length ∧ ∀ j, j ∉ sl → σ'[j]? = σ[j]?) → Q σ' H) → tg w σ H Q)
    (rt : ∀ σ H m env st Q, SR X.K ca H m st → ER X.K ca H m env σ → Post X.K ca rB (EW W0 ca σ) m H Q (ft env st) → tt σ H Q)
    (re : ∀ σ H m env st Q, SR X.K ca H m st → ER X.K ca H m env σ → Post X.K ca (VR X.K ca) (EW W0 ca σ) m H Q (fe env st) → te σ H Q)
    {σ : L2.St} {H : Hp} {m : List Addr} {env : Env} {st : Store} {Q : VK} (s : SR X.K ca H m st) (e : ER X.K ca H m env σ) (h : Post X.K ca (VR X.K ca) (EW W ca σ) m H Q (lcF fi own g ft fe env st)) : tLc ti tg tt te own σ H Q := by
  refine ri σ H m env st _ s e (Post.bind h fun k st1 m1 J H1 p1 k1 s1 r1 h1 => ?_)
  intro D hD
  obtain ⟨pD, kD, sD, rD⟩ := upd_l (K := X.K) (ca := ca) (xs := []) (vs := []) s1 hD .nil
  refine ⟨fun i n H' => ∃ m' st', m1 ++ [D] <+: m' ∧ Keep X.K H1 H' ∧ SR X.K ca H' m' st' ∧ i + n = k.its.length ∧ Post0 X.K ca (VR X.K ca) m' H' Q (lcL k.gd g ft fe st1.length (wipeE env own) (k.its.drop i) st'),
    ⟨k.its.length, m1 ++ [D], st1 ++ [.lst []], List.prefix_refl _, kD, sD, Nat.zero_add _, Post0.mono h1.of pD kD⟩, ?_⟩
  rintro i n H' ⟨m', st', pm, km, s', en, h'⟩
  have pm1 : m1 <+: m' := pD.trans pm
  have hn : m'[st1.length]? = some D := pre_get pm (by rw [← s1.len, List.getElem?_append_right (Nat.le_refl _), Nat.sub_self]; rfl)
  by_cases hlt : i < k.its.length
  · obtain ⟨v, hv⟩ : ∃ v, k.its[i]? = some v := ⟨_, List.getElem?_eq_getElem hlt⟩
    have hd : k.its.drop i = v :: k.its.drop (i + 1) := by
      have e1 := List.drop_eq_getElem_cons hlt
      rw [List.getElem?_eq_getElem hlt] at hv
      cases hv
      exact e1
    rw [hd] at h'
    unfold lcL at h'
    split at h'
    · rename_i hgd
      obtain ⟨hgo, hy⟩ := (r1 i m' H' st' pm1 km s' hgd).1 v hv
      refine .inr ⟨hgo, fun H2 => ∃ m' st', m1 ++ [D] <+: m' ∧ Keep X.K H1 H2 ∧ SR X.K ca H2 m' st' ∧ (i + 1) + (n - 1) = k.its.length ∧ Post0 X.K ca (VR X.K ca) m' H2 Q (lcL k.gd g ft fe st1.length (wipeE env own) (k.its.drop (i + 1)) st'), fun H2 hN => ⟨n - 1, by omega, hN⟩, fun x H2 hyl => ?_⟩
      obtain ⟨k2, s2, r2⟩ := hy x H2 hyl
      have ew : ER X.K ca H2 m' (wipeE env own) (wipe σ own) := ((e.mono (p1.trans pm1) ((k1.trans km).trans k2))).wipe own
      cases c : g v (wipeE env own) with
      | none => rw [c] at h'; exact h'.elim
      | some e1 =>
        rw [c] at h'
        refine rg (wipe σ own) H2 m' (wipeE env own) v x e1 _ ew r2 c fun σ3 e3 n3 => ⟨wipe_same (n3.1.trans (wipe_length _ _)) hsl n3.2, ?_⟩
        have h3 := Post0.mono h' (List.prefix_refl _) k2
        simp only at h3
        refine rt σ3 H2 m' e1 st' _ s2 e3 ?_
        cases q : ft e1 st' with
        | er x4 s4 => rw [q] at h3; exact h3.elim
        | no => rw [q] at h3; exact h3.elim
        | ok kk s4 =>
          rw [q] at h3
          intro m5 b H5 p5 k5 s5 e5
          have eb : kk = b := e5
          subst eb
          cases kk with
          | false =>
            rw [if_neg Bool.false_ne_true]
            exact ⟨m5, s4, pm.trans p5, (km.trans k2).trans k5, s5, by omega, Post0.mono h3 p5 k5⟩
          | true =>
            rw [if_pos rfl]
            refine re σ3 H5 m5 e1 s4 _ s5 (e3.mono p5 k5) ?_
            simp only at h3
            cases q2 : fe e1 s4 with
            | er x6 s6 => rw [q2] at h3; exact h3.elim
            | no => rw [q2] at h3; exact h3.elim
            | ok y s6 =>
              rw [q2] at h3
              simp only at h3
              intro m7 y' H7 p7 k7 s7 r7
              split at h3
              · rename_i acc hacc
                obtain ⟨vs, ha, ra⟩ := s7.at hacc (pre_get (p5.trans p7) hn)
                split at h3
                · rename_i hz
                  refine ⟨vs, ha, by rw [← ra.length]; exact hz, ?_⟩
                  have kk := Keep.upd (K := X.K) (o := .lst (vs ++ [y'])) ha (fun _ z => nomatch z) (fun _ _ z => nomatch z)
                  have ss := s7.set (o := .lst (vs ++ [y'])) (ob := .lst (acc ++ [y])) (pre_get (p5.trans p7) hn) ha (fun _ z => nomatch z) (fun _ _ z => nomatch z) ⟨_, upd_same, (ra.mono (List.prefix_refl _) kk).append (.cons (r7.mono (List.prefix_refl _) kk) .nil)⟩
                  exact ⟨m7, _, (pm.trans p5).trans p7, (((km.trans k2).trans k5).trans k7).trans kk, ss, by omega, Post0.mono h3 (p5.trans p7) ((k5.trans k7).trans kk)⟩
                · exact h3.elim
              · exact h3.elim
    · exact h'.elim
  · rw [List.drop_eq_nil_of_le (by omega)] at h'
    unfold lcL at h'
    split at h'
    · rename_i hgd
      exact .inl ⟨(r1 i m' H' st' pm1 km s' hgd).2 (by omega), h' m' _ H' (List.prefix_refl _) Keep.refl s' (.ref hn)⟩
    · exact h'.elim
theorem je_lc {elt tg iter : Expr} {ifs : List Expr} {scope : Scope} {own : List (Str × Nat)} {sl : List Nat} {fi : FI} {g : FG} {ft : FT} {fe : FE} (hc : X.calm = true) (hN : X.N.Nodup) (hi : JI X W ca tg iter fi) (ok : BlkOk X.N X.env.scope scope own) (hsl : ∀ j ∈ sl, j ∈ own.map (·.2))
    (hg : ∀ (s : Shared) (H : Hp) (C : Addr) (cl : List (Str × Addr)) (fp : List Addr), JG' (X.blk s H scope (compEnvC scope cl C X.env) fp) ca tg sl g)
    (ht : ∀ (s : Shared) (H : Hp) (C : Addr) (cl : List (Str × Addr)) (fp : List Addr), JTs (X.blk s H scope (compEnvC scope cl C X.env) fp) W0 ca ifs ft)
    (he : ∀ (s : Shared) (H : Hp) (C : Addr) (cl : List (Str × Addr)) (fp : List Addr), JE (X.blk s H scope (compEnvC scope cl C X.env) fp) W0 ca elt fe) (hs : ∀ x, foldedSetIterable iter X.env x = pure x := by intro _; rfl) :
    JE X W ca (.ListComp elt [⟨tg, iter, ifs, 0⟩] scope pos) (lcF fi (own.map (·.2)) g ft fe) := by
  obtain ⟨ti, pi, ri⟩ := hi.ex
  refine ⟨_, pe_lc (g := fun v σ H Q => ∀ s0 H0 C cl fp, (hg s0 H0 C cl fp).ex.choose v σ H Q) (tt := fun σ H Q => ∀ s0 H0 C cl fp, (ht s0 H0 C cl fp).ex.choose σ H Q) (te := fun σ H Q => ∀ s0 H0 C cl fp, (he s0 H0 C cl fp).ex.choose σ H Q) hc hN pi ok
    (fun s0 H0 C cl fp => ⟨fun pins s σ H v u Q I r h => (hg s0 H0 C cl fp).ex.choose_spec.1.run pins s σ H v u Q I r (h s0 H0 C cl fp)⟩)
    (fun s0 H0 C cl fp => ⟨fun pins s σ H Q I h => (ht s0 H0 C cl fp).ex.choose_spec.1.run pins s σ H Q I (h s0 H0 C cl fp)⟩)
    (fun s0 H0 C cl fp => ⟨fun pins s σ H Q I h => (he s0 H0 C cl fp).ex.choose_spec.1.run pins s σ H Q I (h s0 H0 C cl fp)⟩) hs, fun σ H m env st Q s e h => ?_⟩
  refine lc_ok hsl ri (fun σ H m env v w env' Q er rv hh q s0 H0 C cl fp => (hg s0 H0 C cl fp).ex.choose_spec.2 σ H m env v w env' Q er rv hh q) (fun σ H m env st Q s e h s0 H0 C cl fp => (ht s0 H0 C cl fp).ex.choose_spec.2 σ H m env st Q s e h)
    (fun σ H m env st Q s e h s0 H0 C cl fp => (he s0 H0 C cl fp).ex.choose_spec.2 σ H m env st Q s e h) s e h
theorem js_lc {i : Nat} {y : Str} {py : Pos} {elt tg iter : Expr} {ifs : List Expr} {scope : Scope} {own : List (Str × Nat)} {sl : List Nat} {spos : Pos} {fi : FI} {g : FG} {ft : FT} {fe : FE} (hc : X.calm = true) (hN : X.N.Nodup) (hy : X.N[i]? = some y) (hyl : X.env.scope.names.lookup y = some .local)
    (hsw : swapsWith (.ListComp elt [⟨tg, iter, ifs, 0⟩] scope pos) (some (.Name y py)) spos.line X.env = pure true) (hi : JI X W ca tg iter fi) (ok : BlkOk X.N X.env.scope scope own) (hsl : ∀ j ∈ sl, j ∈ own.map (·.2))
    (hg : ∀ (s : Shared) (H : Hp) (C : Addr) (cl : List (Str × Addr)) (fp : List Addr), JG' (X.blk s H scope (compEnvC scope cl C X.env) fp) ca tg sl g)
    (ht : ∀ (s : Shared) (H : Hp) (C : Addr) (cl : List (Str × Addr)) (fp : List Addr), JTs (X.blk s H scope (compEnvC scope cl C X.env) fp) W0 ca ifs ft)
    (he : ∀ (s : Shared) (H : Hp) (C : Addr) (cl : List (Str × Addr)) (fp : List Addr), JE (X.blk s H scope (compEnvC scope cl C X.env) fp) W0 ca elt fe) (hs : ∀ x, foldedSetIterable iter X.env x = pure x := by intro _; rfl) :
    JS X W ca (.Assign [.Name y py] (.ListComp elt [⟨tg, iter, ifs, 0⟩] scope pos) spos) (setS i (lcF fi (own.map (·.2)) g ft fe)) := by
  obtain ⟨ti, pi, ri⟩ := hi.ex
  refine ⟨_, ps_setLc (g := fun v σ H Q => ∀ s0 H0 C cl fp, (hg s0 H0 C cl fp).ex.choose v σ H Q) (tt := fun σ H Q => ∀ s0 H0 C cl fp, (ht s0 H0 C cl fp).ex.choose σ H Q) (te := fun σ H Q => ∀ s0 H0 C cl fp, (he s0 H0 C cl fp).ex.choose σ H Q) hc hN hy hyl hsw pi ok
    (fun s0 H0 C cl fp => ⟨fun pins s σ H v u Q I r h => (hg s0 H0 C cl fp).ex.choose_spec.1.run pins s σ H v u Q I r (h s0 H0 C cl fp)⟩)
    (fun s0 H0 C cl fp => ⟨fun pins s σ H Q I h => (ht s0 H0 C cl fp).ex.choose_spec.1.run pins s σ H Q I (h s0 H0 C cl fp)⟩)
    (fun s0 H0 C cl fp => ⟨fun pins s σ H Q I h => (he s0 H0 C cl fp).ex.choose_spec.1.run pins s σ H Q I (h s0 H0 C cl fp)⟩) hs, fun σ H m env st D s e h => ?_⟩
  refine lc_ok (W := W) hsl ri (fun σ H m env v w env' Q er rv hh q s0 H0 C cl fp => (hg s0 H0 C cl fp).ex.choose_spec.2 σ H m env v w env' Q er rv hh q) (fun σ H m env st Q s e h s0 H0 C cl fp => (ht s0 H0 C cl fp).ex.choose_spec.2 σ H m env st Q s e h)
    (fun σ H m env st Q s e h s0 H0 C cl fp => (he s0 H0 C cl fp).ex.choose_spec.2 σ H m env st Q s e h) s e ?_
  exact Post.toS h e fun v st1 m1 w H1 p1 k1 s1 r1 h1 => h1.nx s1 ((e.mono p1 k1).set r1 i)
end

/-! ## a def's end: what it made and nobody holds is forgotten -/
mutual
def refsOk (n : Nat) : PV → Bool
  | .ref k => decide (k < n)
  | .tup xs => refsOks n xs
  | .frz xs => refsOks n xs
  | _ => true
def refsOks (n : Nat) : List PV → Bool
  | [] => true
  | x :: xs => refsOk n x && refsOks n xs
end
def objOk (n : Nat) : PO → Bool
  | .lst xs => refsOks n xs
  | .dK kvs => refsOks n (kvs.map (·.2))
  | .dN kvs => false
  | .ins _ fs => refsOks n (fs.map (·.2))
/-- what stood ahead stands as it was, or holds nothing that was made since -/
def preOk (st0 st : Store) : Prop := ∀ k, k < st0.length → st[k]? = st0[k]? ∨ ∃ o, st[k]? = some o ∧ objOk st0.length o = true
open Classical in
def gc (st0 : Store) (v : PV) (st : Store) : R PV :=
  if st0.length ≤ st.length ∧ preOk st0 st then
    if refsOk st0.length v = true then .ok v (st.take st0.length)
    else match v with
      | .ref r => (match st[r]? with
        | some o => if objOk st0.length o = true ∧ st0.length ≤ r then .ok (.ref st0.length) (st.take st0.length ++ [o]) else .ok v st
        | none => .no)
      | _ => .ok v st
  else .ok v st
open Classical in
def gcx (st0 : Store) (x : Ex) (st : Store) : R PV :=
  if st0.length ≤ st.length ∧ preOk st0 st ∧ (∀ p, x.val = some p → refsOk st0.length p.2 = true) then .er x (st.take st0.length) else .er x st
def runFn (n : Nat) (body : FS) : Fn := fun args st => match body (args.map some ++ List.replicate (n - args.length) none) st with
  | .nx _ s => gc st .non s
  | .rt v s => gc st v s
  | .er x _ s => gcx st x s
  | _ => .no
section
variable {K : PySem.W.Frag} {ca : String → Addr} {m m' : List Addr} {H H' : Hp}
mutual
theorem VR.cutB (n : Nat) (hn : m.length = n) (p : m <+: m') : ∀ {x : PV} {v : V}, VR K ca H' m' x v → refsOk n x = true → VR K ca H' m x v
  | _, _, .non, _ => .non
  | _, _, .bl b, _ => .bl b
  | _, _, .int i, _ => .int i
  | _, _, .str x, _ => .str x
  | _, _, .ty n, _ => .ty n
  | _, _, .cls n, _ => .cls n
  | _, _, .ref h, e => .ref (by
      simp only [refsOk, decide_eq_true_eq] at e
      obtain ⟨l, rfl⟩ := p
      rw [List.getElem?_append_left (by omega)] at h
      exact h)
  | _, _, .tup h r, e => .tup h (VRs.cutB n hn p r (by simpa only [refsOk] using e))
  | _, _, .frz h r, e => .frz h (VRs.cutB n hn p r (by simpa only [refsOk] using e))
theorem VRs.cutB (n : Nat) (hn : m.length = n) (p : m <+: m') : ∀ {xs : List PV} {vs : List V}, VRs K ca H' m' xs vs → refsOks n xs = true → VRs K ca H' m xs vs
  | _, _, .nil, _ => .nil
  | _, _, .cons h r, e => by
    simp only [refsOks, Bool.and_eq_true] at e
    exact .cons (VR.cutB n hn p h e.1) (VRs.cutB n hn p r e.2)
end
mutual
theorem VR.refs (n : Nat) (hn : m.length = n) : ∀ {x : PV} {v : V}, VR K ca H m x v → refsOk n x = true
  | _, _, .non => rfl
  | _, _, .bl b => rfl
  | _, _, .int i => rfl
  | _, _, .str x => rfl
  | _, _, .ty n => rfl
  | _, _, .cls n => rfl
  | _, _, .ref h => by
      simp only [refsOk, decide_eq_true_eq]
      have := (List.getElem?_eq_some_iff.mp h).1
      omega
  | _, _, .tup h r => by simpa only [refsOk] using VRs.refs n hn r
  | _, _, .frz h r => by simpa only [refsOk] using VRs.refs n hn r
theorem VRs.refs (n : Nat) (hn : m.length = n) : ∀ {xs : List PV} {vs : List V}, VRs K ca H m xs vs → refsOks n xs = true
  | _, _, .nil => rfl
  | _, _, .cons h r => by simp only [refsOks, Bool.and_eq_true]; exact ⟨VR.refs n hn h, VRs.refs n hn r⟩
end
theorem KR.cutB {κ : Type} (n : Nat) (hn : m.length = n) (p : m <+: m') {a : List (κ × PV)} {b : List (κ × V)} (h : KR K ca H' m' a b) (e : refsOks n (a.map (·.2)) = true) : KR K ca H' m a b := by
  induction h with
  | nil => exact .nil
  | cons r t ih =>
    simp only [List.map_cons, refsOks, Bool.and_eq_true] at e
    exact .cons ⟨r.1, r.2.cutB n hn p e.1⟩ (ih e.2)
theorem KR.refs {κ : Type} (n : Nat) (hn : m.length = n) {a : List (κ × PV)} {b : List (κ × V)} (h : KR K ca H m a b) : refsOks n (a.map (·.2)) = true := by
  induction h with
  | nil => rfl
  | cons r t ih =>
    simp only [List.map_cons, refsOks, Bool.and_eq_true]
    exact ⟨r.2.refs n hn, ih⟩
theorem OR.cutB (n : Nat) (hn : m.length = n) (p : m <+: m') {a : Addr} {o : PO} (h : OR K ca H' m' a o) (e : objOk n o = true) : OR K ca H' m a o := by
  cases o with
  | lst xs => obtain ⟨vs, q, r⟩ := h; exact ⟨vs, q, r.cutB n hn p e⟩
  | dK kvs => obtain ⟨vs, q, r⟩ := h; exact ⟨vs, q, r.cutB n hn p e⟩
  | dN kvs => exact h.elim
  | ins c fs => obtain ⟨dx, vs, q, r⟩ := h; exact ⟨dx, vs, q, r.cutB n hn p e⟩
theorem OR.refs (n : Nat) (hn : m.length = n) {a : Addr} {o : PO} (h : OR K ca H m a o) : objOk n o = true := by
  cases o with
  | lst xs => obtain ⟨vs, q, r⟩ := h; exact r.refs n hn
  | dK kvs => obtain ⟨vs, q, r⟩ := h; exact r.refs n hn
  | dN kvs => exact h.elim
  | ins c fs => obtain ⟨dx, vs, q, r⟩ := h; exact r.refs n hn
/-- the store cut back -/
theorem SR.cut {st0 st : Store} (s0 : SR K ca H m st0) (s : SR K ca H' m' st) (p : m <+: m') (h : preOk st0 st) : SR K ca H' m (st.take st0.length) := by
  have hl : m.length ≤ m'.length := p.length_le
  refine ⟨by rw [List.length_take, ← s.len, ← s0.len]; omega, s.nd.sublist p.sublist, fun n a o ha ho => ?_⟩
  have hn : n < m.length := (List.getElem?_eq_some_iff.mp ha).1
  rw [List.getElem?_take_of_lt (by rw [← s0.len]; exact hn)] at ho
  have r := s.ob n a o (pre_get p ha) ho
  refine r.cutB _ rfl p ?_
  rcases h n (by rw [← s0.len]; exact hn) with q | ⟨o', q, z⟩
  · rw [ho] at q
    exact (s0.ob n a o ha q.symm).refs _ rfl
  · rw [ho] at q
    cases q
    rw [s0.len]
    exact z
theorem Post.gc {E : Ex → Option Addr → Hp → Prop} {Q : VK} {st0 st : Store} {v : PV} (s0 : SR K ca H m st0) (h : Post K ca (VR K ca) E m H Q (gc st0 v st)) :
    ∀ m' w H', m <+: m' → Keep K H H' → SR K ca H' m' st → VR K ca H' m' v w → Q w H' := by
  intro m' w H' p k s r
  unfold FL.gc at h
  split at h
  · rename_i hp
    split at h
    · rename_i hr
      exact h m w H' (List.prefix_refl _) k (s0.cut s p hp.2) (r.cutB _ s0.len p hr)
    · split at h
      · rename_i rr hr
        split at h
        · rename_i o ho
          split at h
          · rename_i hob
            cases r with
            | ref ha =>
              rename_i a
              have sc := s0.cut s p hp.2
              have lm : (st.take st0.length).length = m.length := by rw [sc.len]
              have na : a ∉ m := fun hm => by
                obtain ⟨i, hi, e⟩ := List.getElem_of_mem hm
                have e1 : m'[i]? = some a := pre_get p (by rw [List.getElem?_eq_getElem hi, e])
                obtain ⟨l1, z1⟩ := List.getElem?_eq_some_iff.mp e1
                obtain ⟨l2, z2⟩ := List.getElem?_eq_some_iff.mp ha
                have := (List.getElem_inj s.nd).mp (z1.trans z2.symm)
                have := hob.2
                rw [← s0.len] at this
                omega
              refine h (m ++ [a]) _ H' (List.prefix_append _ _) k ?_ (.ref (by rw [← s0.len, List.getElem?_append_right (Nat.le_refl _), Nat.sub_self]; rfl))
              refine ⟨by rw [List.length_append, List.length_append, lm] <;> rfl, ?_, fun n b u hb hu => ?_⟩
              · rw [List.nodup_append]
                refine ⟨sc.nd, List.nodup_cons.mpr ⟨List.not_mem_nil, List.nodup_nil⟩, fun x hx y hy => ?_⟩
                obtain rfl := List.mem_singleton.mp hy
                exact fun z => na (z ▸ hx)
              · by_cases hn : n < m.length
                · rw [List.getElem?_append_left hn] at hb
                  rw [List.getElem?_append_left (by rw [lm]; exact hn)] at hu
                  exact (sc.ob n b u hb hu).mono (List.prefix_append _ _) Keep.refl rfl
                · have e : n = m.length := by
                    have := (List.getElem?_eq_some_iff.mp hb).1
                    rw [List.length_append, List.length_singleton] at this
                    omega
                  subst e
                  rw [List.getElem?_append_right (Nat.le_refl _), Nat.sub_self] at hb
                  rw [← lm, List.getElem?_append_right (Nat.le_refl _), Nat.sub_self] at hu
                  cases hb
                  cases hu
                  exact ((s.at ho ha).cutB _ s0.len p hob.1).mono (List.prefix_append _ _) Keep.refl rfl
          · exact h m' w H' p k s r
        · exact h.elim
      · exact h m' w H' p k s r
  · exact h m' w H' p k s r
theorem Post.gcx {E : Ex → Option Addr → Hp → Prop} {Q : VK} {st0 st : Store} {x : Ex} (s0 : SR K ca H m st0) (h : Post K ca (VR K ca) E m H Q (gcx st0 x st)) :
    ∀ m' d H', m <+: m' → Keep K H H' → SR K ca H' m' st → XR K ca H' m' x d → E x d H' := by
  intro m' d H' p k s r
  unfold FL.gcx at h
  split at h
  · rename_i hp
    refine h m d H' (List.prefix_refl _) k (s0.cut s p hp.2.1) ?_
    obtain ⟨c, val⟩ := x
    cases val with
    | none => exact r
    | some q =>
      obtain ⟨a, w, e1, e2, e3⟩ := r
      exact ⟨a, w, e1, e2, e3.cutB _ s0.len p (hp.2.2 _ rfl)⟩
  · exact h m' d H' p k s r
end

/-! ## a def by its body -/
section
variable {P : Program} {w : World} {K : PySem.W.Frag} {mg : Str → Option Value} {base : Heap} {ca : String → Addr}
theorem er_start {H : Hp} {m : List Addr} {N : List Str} {xs : List PV} {vs : List V} (r : VRs K ca H m xs vs) : ER K ca H m (xs.map some ++ List.replicate (N.length - xs.length) none) (L2.start N vs) := by
  unfold L2.start
  refine ⟨by rw [List.length_append, List.length_append, List.length_map, List.length_map, List.length_replicate, List.length_replicate, r.length], fun i v h => ?_⟩
  by_cases hi : i < xs.length
  · rw [List.getElem?_append_left (by simpa using hi), List.getElem?_map] at h
    cases q : xs[i]? with
    | none => rw [q] at h; cases h
    | some x =>
      rw [q] at h
      cases h
      obtain ⟨w, h1, h2⟩ := r.get q
      refine ⟨w, ?_, h2⟩
      rw [List.getElem?_append_left (by rw [List.length_map, ← r.length]; exact hi), List.getElem?_map, h1]
      rfl
  · rw [List.getElem?_append_right (by simpa using hi), List.getElem?_replicate] at h
    split at h <;> cases h
/-- THE RULE of a def -/
theorem cal_mk {x qual : Str} {st : Stmt} {f : Addr} {fd : FuncData} {N ps : List Str} {k n : Nat} {body : FS} (F : L2.Fun K x qual st f fd) (S : FnScope N ps (defScope st)) (hn : N.length = n)
    (hbody : ∀ (cdv : Value) (A : Around) (outer : List PySem.Env) (s : Shared) (H : Hp) (E : XK), Room k (A.deeper (envOfC qual (defScope st) s.heap.objs.size f cdv)) →
      Takes (cxOf (L2.CX P w) P w K mg base N qual (defScope st) f cdv A outer s H E) (fun cls d _ H => E cls d H) →
      PassesOwn (model P w) (cxOf (L2.CX P w) P w K mg base N qual (defScope st) f cdv A outer s H E).A (cxOf (L2.CX P w) P w K mg base N qual (defScope st) f cdv A outer s H E).env (cxOf (L2.CX P w) P w K mg base N qual (defScope st) f cdv A outer s H E).xe →
      JSs (cxOf (L2.CX P w) P w K mg base N qual (defScope st) f cdv A outer s H E) (fun cls d _ H => E cls d H) ca (defBody st) body) :
    Cal P w K mg base ca (k + 1) f fd ps (runFn n body) := by
  subst hn
  refine ⟨Fun.okX F S (fun vs H Q E h => ?_) (fun cdv A outer s H vs Q E hr h => ?_), F.kp⟩
  · obtain ⟨m, st, xs, _, r, hl, _⟩ := h
    rw [← r.length, hl]
  · obtain ⟨m, st, xs, s0, r, hl, h⟩ := h
    obtain ⟨t, p, z⟩ := (hbody cdv A outer s H E hr (takes_of rfl rfl rfl rfl) (passes_of rfl)).ex
    refine ⟨t, p, z _ H m (xs.map some ++ List.replicate (N.length - xs.length) none) st _ s0 (er_start r) ?_⟩
    unfold runFn at h
    cases q : body (xs.map some ++ List.replicate (N.length - xs.length) none) st with
    | nx e1 s1 => rw [q] at h; exact fun m1 σ1 H1 p1 k1 s2 _ => h.gc s0 m1 _ H1 p1 k1 s2 .non
    | rt v s1 => rw [q] at h; exact fun m1 w1 H1 p1 k1 s2 r1 => h.gc s0 m1 w1 H1 p1 k1 s2 r1
    | er x e1 s1 => rw [q] at h; exact fun m1 d σ1 H1 p1 k1 s2 _ r1 => h.gcx s0 m1 d H1 p1 k1 s2 r1
    | bk e1 s1 => rw [q] at h; exact h.elim
    | ct e1 s1 => rw [q] at h; exact h.elim
    | no => rw [q] at h; exact h.elim
/-- no call is left -/
def fn0 : Fn := fun _ _ => .no
theorem cal_0 {f : Addr} {fd : FuncData} {ps : List Str} (kp : PySem.W.keepIn K (.ref f) = true) : Cal P w K mg base ca 0 f fd ps fn0 := by
  have no : ∀ vs H Q E, ¬ spF K ca ps.length fn0 vs H Q E := fun vs H Q E h => by
    obtain ⟨m, st, xs, _, _, _, h⟩ := h
    exact h
  exact ⟨⟨fun vs H Q E h => absurd h (no vs H Q E), fun A outer s H args us vs Q E _ _ _ _ h => absurd h (no vs H Q E)⟩, kp⟩
end
end
end FL
end
section
set_option linter.all false
set_option maxRecDepth 100000
namespace FL
open PySem PySem.Spec PyProof.Rows L2
noncomputable section
section
variable {K : PySem.W.Frag} {ca : String → Addr} {m m' : List Addr} {H H' : Hp} {st : Store} {Q : VK}
theorem Post0.val {v : PV} {w : V} (h : Post0 K ca (VR K ca) m H Q (some (v, st))) (s : SR K ca H m st) (r : VR K ca H m v w) : Q w H := h m w H (List.prefix_refl _) Keep.refl s r
theorem Post0.newL {xs : List PV} {vs : List V} {p : Addr} (h : Post0 K ca (VR K ca) m H Q (some (.ref st.length, st ++ [.lst xs]))) (s : SR K ca H m st) (r : VRs K ca H m xs vs) (hp : H p = none) : Q (.ref p) (upd H p (.lst vs)) := by
  obtain ⟨a, b, c, d⟩ := upd_l s hp r
  exact h _ _ _ a b c d
theorem Post0.newT {xs : List PV} {vs : List V} {p : Addr} (h : Post0 K ca (VR K ca) m H Q (some (.tup xs, st))) (s : SR K ca H m st) (r : VRs K ca H m xs vs) (hp : H p = none) : Q (.ref p) (upd H p (.tup vs)) := by
  obtain ⟨a, b, c⟩ := upd_t s hp r
  exact h m _ _ (List.prefix_refl _) a b c
/-- a list of the store, changed -/
theorem Post0.setL {n : Nat} {a : Addr} {ys : List PV} {vs ws : List V} {v : PV} {w : V} (h : Post0 K ca (VR K ca) m H Q (some (v, st.set n (.lst ys)))) (s : SR K ca H m st) (ha : m[n]? = some a) (hH : H a = some (.lst vs)) (r : VRs K ca H m ys ws) (rv : VR K ca H m v w) : Q w (upd H a (.lst ws)) := by
  have kk := Keep.upd (K := K) (o := .lst ws) hH (fun _ z => nomatch z) (fun _ _ z => nomatch z)
  exact h m w _ (List.prefix_refl _) kk (s.set ha hH (fun _ z => nomatch z) (fun _ _ z => nomatch z) ⟨_, upd_same, r.mono (List.prefix_refl _) kk⟩) (rv.mono (List.prefix_refl _) kk)
theorem getL (s : SR K ca H m st) {n : Nat} {a : Addr} {xs : List PV} (h : st[n]? = some (.lst xs)) (ha : m[n]? = some a) : ∃ vs, H a = some (.lst vs) ∧ VRs K ca H m xs vs := s.at h ha
end

/-! ## arithmetic -/
def addV (x y : PV) (st : Store) : O PV := match x, y with
  | .int i, .int j => some (.int (i + j), st)
  | .str a, .str b => if a.length + b.length ≤ sizeLine then some (.str (a ++ b), st) else none
  | .tup xs, .tup ys => if xs.length + ys.length ≤ sizeLine then some (.tup (xs ++ ys), st) else none
  | .ref a, .ref b => match st[a]?, st[b]? with
    | some (.lst xs), some (.lst ys) => if xs.length + ys.length ≤ sizeLine then some (.ref st.length, st ++ [.lst (xs ++ ys)]) else none
    | _, _ => none
  | _, _ => none
def iaddV (x y : PV) (st : Store) : O PV := match x, y with
  | .int i, .int j => some (.int (i + j), st)
  | .str a, .str b => if a.length + b.length ≤ sizeLine then some (.str (a ++ b), st) else none
  | _, _ => none
def subV (x y : PV) (st : Store) : O PV := match x, y with
  | .int i, .int j => some (.int (i - j), st)
  | _, _ => none
def mulOk (i j : Int) : Bool := decide (i.natAbs.log2 + j.natAbs.log2 < 1000000)
def mulV (x y : PV) (st : Store) : O PV := match x, y with
  | .int i, .int j => if mulOk i j = true then some (.int (i * j), st) else none
  | .str a, .int j => if 0 ≤ j ∧ j ≤ 1000 ∧ a.length ≤ 1000 then some (.str (Txt.mul a j), st) else none
  | .ref a, .int j => match st[a]? with
    | some (.lst xs) => if 0 ≤ j ∧ j ≤ 1000 ∧ xs.length ≤ 1000 then some (.ref st.length, st ++ [.lst (List.replicate j.toNat xs).flatten]) else none
    | _ => none
  | _, _ => none
def fdivV (x y : PV) (st : Store) : O PV := match x, y with
  | .int i, .int j => if 0 < j ∧ j.natAbs.log2 < 9000 then some (.int (i / j), st) else none
  | _, _ => none
def modV (x y : PV) (st : Store) : O PV := match x, y with
  | .int i, .int j => if 0 < j then some (.int (i % j), st) else none
  | _, _ => none
def powV (x y : PV) (st : Store) : O PV := match x, y with
  | .int i, .int j => if 0 ≤ j ∧ j ≤ 1000000 ∧ i.natAbs < 2 ^ 64 then some (.int (i ^ j.toNat), st) else none
  | _, _ => none
def negV (x : PV) (st : Store) : O PV := match x with
  | .int i => some (.int (-i), st)
  | _ => none
def cmpV (f : Int → Int → Bool) (x y : PV) (st : Store) : O PV := match x, y with
  | .int i, .int j => some (.bl (f i j), st)
  | _, _ => none
abbrev ltV := cmpV fun i j => decide (i < j)
abbrev leV := cmpV fun i j => decide (i ≤ j)
abbrev gtV := cmpV fun i j => decide (j < i)
abbrev geV := cmpV fun i j => decide (j ≤ i)
def isNonV (x y : PV) (st : Store) : O PV := match y with
  | .non => some (.bl (match x with | .non => true | _ => false), st)
  | _ => none
def notNonV (x y : PV) (st : Store) : O PV := match y with
  | .non => some (.bl (match x with | .non => false | _ => true), st)
  | _ => none
section
variable {X : Cx} {ca : String → Addr}
/-- two roads joined -/
theorem OpF.or {f : Value → Value → Sem Value} {r r' : R2} {g : PV → PV → Store → O PV} (h : OpR X f r) (h' : OpR X f r')
    (q : ∀ H m st x y x' y' Q, SR X.K ca H m st → VR X.K ca H m x x' → VR X.K ca H m y y' → Post0 X.K ca (VR X.K ca) m H Q (g x y st) → r x' y' H Q ∨ r' x' y' H Q) : OpF X ca f g := ⟨_, OpR.or h h', q⟩
theorem of_ints {f : Value → Value → Sem Value} {C : Int → Int → Prop} {k : Int → Int → V} (h : OpR X f (rI C k)) {g : PV → PV → Store → O PV} {k' : Int → Int → PV} (hk : ∀ H m i j, VR X.K ca H m (k' i j) (k i j))
    (hg : ∀ x y st v, g x y st = some v → ∃ i j, x = .int i ∧ y = .int j ∧ C i j ∧ v = (k' i j, st)) : OpF X ca f g := by
  refine ⟨_, h, fun H m st x y x' y' Q s rx ry p => ?_⟩
  cases e : g x y st with
  | none => rw [e] at p; exact p.elim
  | some v =>
    obtain ⟨i, j, rfl, rfl, c, rfl⟩ := hg x y st v e
    rw [e] at p
    cases rx
    cases ry
    exact ⟨i, j, rfl, rfl, c, p.val s (hk H m i j)⟩
theorem rI0_of {f : Value → Value → Sem Value} {k : Int → Int → V} (h : OpR X f (rI0 k)) : OpR X f (rI (fun _ _ => True) k) := fun pins s σ H x y v u Q I rx ry ⟨i, j, a, b, _, q⟩ => h pins s σ H x y v u Q I rx ry ⟨i, j, a, b, q⟩
theorem of_sub : OpF X ca (binaryOp .Sub) subV := of_ints (rI0_of op_sub) (k' := fun i j => .int (i - j)) (fun _ _ _ _ => .int _) fun x y st v e => by
  cases x <;> cases y <;> simp only [subV, Option.some.injEq, reduceCtorEq] at e
  exact ⟨_, _, rfl, rfl, trivial, e.symm⟩
theorem of_fdiv : OpF X ca (binaryOp .FloorDiv) fdivV := of_ints op_fdivW (k' := fun i j => .int (i / j)) (fun _ _ _ _ => .int _) fun x y st v e => by
  cases x <;> cases y <;> simp only [fdivV, Option.some.injEq, reduceCtorEq] at e
  split at e
  · rename_i h
    exact ⟨_, _, rfl, rfl, h, (Option.some.inj e).symm⟩
  · cases e
theorem of_mod : OpF X ca (binaryOp .Mod) modV := of_ints op_mod (k' := fun i j => .int (i % j)) (fun _ _ _ _ => .int _) fun x y st v e => by
  cases x <;> cases y <;> simp only [modV, Option.some.injEq, reduceCtorEq] at e
  split at e
  · rename_i h
    exact ⟨_, _, rfl, rfl, h, (Option.some.inj e).symm⟩
  · cases e
theorem of_pow : OpF X ca (binaryOp .Pow) powV := of_ints op_pow (k' := fun i j => .int (i ^ j.toNat)) (fun _ _ _ _ => .int _) fun x y st v e => by
  cases x <;> cases y <;> simp only [powV, Option.some.injEq, reduceCtorEq] at e
  split at e
  · rename_i h
    exact ⟨_, _, rfl, rfl, h, (Option.some.inj e).symm⟩
  · cases e
theorem of_neg : UnF X ca (unaryOp .USub) negV := by
  refine ⟨_, un_neg, fun H m st x x' Q s rx p => ?_⟩
  cases rx with
  | int i => exact ⟨i, rfl, p.val s (.int _)⟩
  | _ => exact p.elim
theorem of_cmp {f : Value → Value → Sem Value} {k : Int → Int → Bool} (h : OpR X f (rI0 fun i j => .bl (k i j))) : OpF X ca f (cmpV k) := of_ints (rI0_of h) (k' := fun i j => .bl (k i j)) (fun _ _ _ _ => .bl _) fun x y st v e => by
  cases x <;> cases y <;> simp only [cmpV, Option.some.injEq, reduceCtorEq] at e
  exact ⟨_, _, rfl, rfl, trivial, e.symm⟩
theorem of_lt : OpF X ca (compareOp .Lt) ltV := of_cmp op_lt
theorem of_le : OpF X ca (compareOp .LtE) leV := of_cmp op_le
theorem of_gt : OpF X ca (compareOp .Gt) gtV := of_cmp op_gt
theorem of_ge : OpF X ca (compareOp .GtE) geV := of_cmp op_ge
theorem of_isN : OpF X ca (compareOp .Is) isNonV := by
  refine ⟨_, op_isN, fun H m st x y x' y' Q s rx ry p => ?_⟩
  cases ry with
  | non =>
    refine ⟨rfl, ?_⟩
    cases rx <;> exact p.val s (.bl _)
  | _ => exact p.elim
theorem of_notN : OpF X ca (compareOp .IsNot) notNonV := by
  refine ⟨_, op_notN, fun H m st x y x' y' Q s rx ry p => ?_⟩
  cases ry with
  | non =>
    refine ⟨rfl, ?_⟩
    cases rx <;> exact p.val s (.bl _)
  | _ => exact p.elim
theorem of_add : OpF X ca (binaryOp .Add) addV := by
  refine ⟨_, OpR.or op_add (OpR.or op_add_str (OpR.or op_catA op_cat)), fun H m st x y x' y' Q s rx ry p => ?_⟩
  cases rx with
  | int i => cases ry with
    | int j => exact .inl ⟨i, j, rfl, rfl, p.val s (.int _)⟩
    | _ => exact p.elim
  | str a => cases ry with
    | str b =>
      simp only [addV] at p
      split at p
      · rename_i hz
        exact .inr (.inl ⟨a, b, rfl, rfl, hz, p.val s (.str _)⟩)
      · exact p.elim
    | _ => exact p.elim
  | tup ha ra => cases ry with
    | tup hb rb =>
      rename_i xs a vs ys b ws
      simp only [addV] at p
      split at p
      · rename_i hz
        refine .inr (.inr (.inl ⟨a, b, vs, ws, rfl, rfl, ha, hb, by rw [← ra.length, ← rb.length]; exact hz, fun e => ?_, fun e e2 => ?_, fun _ _ q hq => ?_⟩))
        · subst e
          cases ra
          exact p.val s (.tup hb rb)
        · subst e2
          cases rb
          rw [List.append_nil] at p
          exact p.val s (.tup ha ra)
        · exact p.newT s (ra.append rb) hq
      · exact p.elim
    | _ => exact p.elim
  | ref ha => cases ry with
    | ref hb =>
      simp only [addV] at p
      split at p
      · rename_i xs ys h1 h2
        obtain ⟨vs, e1, r1⟩ := getL s h1 ha
        obtain ⟨ws, e2, r2⟩ := getL s h2 hb
        split at p
        · rename_i hz
          exact .inr (.inr (.inr ⟨_, _, vs, ws, rfl, rfl, e1, e2, by rw [← r1.length, ← r2.length]; exact hz, fun q hq => p.newL s (r1.append r2) hq⟩))
        · exact p.elim
      · exact p.elim
    | _ => exact p.elim
  | _ => exact p.elim
theorem of_iadd : OpF X ca (inplaceOp .Add) iaddV := by
  refine ⟨_, OpR.or iop_add iop_add_str, fun H m st x y x' y' Q s rx ry p => ?_⟩
  cases rx with
  | int i => cases ry with
    | int j => exact .inl ⟨i, j, rfl, rfl, p.val s (.int _)⟩
    | _ => exact p.elim
  | str a => cases ry with
    | str b =>
      simp only [iaddV] at p
      split at p
      · rename_i hz
        exact .inr ⟨a, b, rfl, rfl, hz, p.val s (.str _)⟩
      · exact p.elim
    | _ => exact p.elim
  | _ => exact p.elim
theorem foldl_len (x : Array Nat) : ∀ (n : Nat) (acc : Array Nat), ((List.replicate n x).foldl (· ++ ·) acc).size = acc.size + n * x.size
  | 0, acc => by simp
  | n + 1, acc => by
    rw [List.replicate_succ, List.foldl_cons, foldl_len x n, Array.size_append, Nat.succ_mul]
    omega
theorem op_mul_str : OpR X (binaryOp .Mult) (fun x y H Q => ∃ a j, x = .str a ∧ y = .int j ∧ 0 ≤ j ∧ j ≤ 1000 ∧ a.length ≤ 1000 ∧ Q (.str (Txt.mul a j)) H) := by
  intro pins s σ H x y v u Q I rx ry h
  obtain ⟨a, j, rfl, rfl, h0, h1, h2, q⟩ := h
  obtain ⟨t, rfl⟩ := rx
  obtain ⟨t', rfl⟩ := ry
  refine SB.mul ⟨?_, fun hn _ => ?_, fun hn _ => ?_⟩ fun t1 k => ⟨.str _, H, I.tok k, ⟨_, rfl⟩, q⟩
  · simp only [Bool.or_eq_false_iff, decide_eq_false_iff_not]
    omega
  · have hj : 1 ≤ j := by omega
    have h3 : (a.length : Int) * j ≤ 1000 * 1000 := Int.mul_le_mul (by omega) h1 h0 (by omega)
    have h4 : (a.length : Int) ≤ (2 ^ 63 - 1) / j := Int.le_ediv_of_mul_le (by omega) (by omega)
    omega
  · unfold Builtin.Str.tooLong
    have h3 : a.length * j.toNat ≤ 1000 * 1000 := Nat.mul_le_mul h2 (by omega)
    rw [decide_eq_false_iff_not, sizeLine_eq]
    omega
theorem VRs.rep {K : PySem.W.Frag} {H : Hp} {m : List Addr} {xs : List PV} {vs : List V} (r : VRs K ca H m xs vs) : ∀ n : Nat, VRs K ca H m (List.replicate n xs).flatten (List.replicate n vs).flatten
  | 0 => .nil
  | n + 1 => by
    rw [List.replicate_succ, List.replicate_succ, List.flatten_cons, List.flatten_cons]
    exact r.append (VRs.rep r n)
theorem of_mul : OpF X ca (binaryOp .Mult) mulV := by
  refine ⟨_, OpR.or op_mulW (OpR.or op_mul_str op_rep), fun H m st x y x' y' Q s rx ry p => ?_⟩
  cases rx with
  | int i => cases ry with
    | int j =>
      simp only [mulV] at p
      split at p
      · rename_i hz
        exact .inl ⟨i, j, rfl, rfl, (of_decide_eq_true hz : i.natAbs.log2 + j.natAbs.log2 < 1000000), p.val s (.int _)⟩
      · exact p.elim
    | _ => exact p.elim
  | str a => cases ry with
    | int j =>
      simp only [mulV] at p
      split at p
      · rename_i hz
        exact .inr (.inl ⟨a, j, rfl, rfl, hz.1, hz.2.1, hz.2.2, p.val s (.str _)⟩)
      · exact p.elim
    | _ => exact p.elim
  | ref ha => cases ry with
    | int j =>
      simp only [mulV] at p
      split at p
      · rename_i xs h1
        obtain ⟨vs, e1, r1⟩ := getL s h1 ha
        split at p
        · rename_i hz
          have hl := r1.length
          have h3 : vs.length * j.toNat ≤ 1000 * 1000 := Nat.mul_le_mul (by omega) (by omega)
          exact .inr (.inr ⟨_, j, vs, rfl, rfl, e1, by omega, by omega, by rw [sizeLine_eq]; omega, fun q hq => p.newL s (r1.rep _) hq⟩)
        · exact p.elim
      · exact p.elim
    | _ => exact p.elim
  | _ => exact p.elim
end

/-! ## equality -/
def toDs (f : PV → Option PyData) : List PV → Option (List PyData)
  | [] => some []
  | x :: xs => match f x, toDs f xs with
    | some d, some ds => some (d :: ds)
    | _, _ => none
def toD : Nat → Store → PV → Option PyData
  | 0, _, _ => none
  | k + 1, st, v => match v with
    | .non => some .none
    | .bl b => some (.bool b)
    | .int i => some (.int i)
    | .str x => if PyData.strOk x = true then some (.str x) else none
    | .tup xs => (toDs (toD k st) xs).map PyData.tuple
    | .frz xs => (toDs (toD k st) xs).map PyData.list
    | .ref n => match st[n]? with
      | some (.lst xs) => (toDs (toD k st) xs).map PyData.list
      | _ => none
    | _ => none
/-- equality of two things of no parts -/
def scEq (x y : PV) : Option Bool := match x, y with
  | .int i, .int j => some (decide (i = j))
  | .str a, .str b => some (decide (a = b))
  | .bl a, .bl b => some (decide (a = b))
  | .int _, .str _ => some false
  | .str _, .int _ => some false
  | .non, .int _ => some false
  | .int _, .non => some false
  | .non, .str _ => some false
  | .str _, .non => some false
  | .non, .bl _ => some false
  | .bl _, .non => some false
  | .bl _, .str _ => some false
  | .str _, .bl _ => some false
  | _, _ => none
def eqB (x y : PV) (st : Store) : Option Bool := match scEq x y with
  | some b => some b
  | none => match toD 64 st x, toD 64 st y with
    | some d, some e => some (PyData.eqv d e)
    | _, _ => none
def eqV (x y : PV) (st : Store) : O PV := (eqB x y st).map fun b => (.bl b, st)
def neV (x y : PV) (st : Store) : O PV := (eqB x y st).map fun b => (.bl (!b), st)
section
variable {K : PySem.W.Frag} {ca : String → Addr} {m m' : List Addr} {H H' : Hp} {st : Store}
theorem toDs_ok {f : PV → Option PyData} {k : Nat} (ih : ∀ {x v d}, VR K ca H m x v → f x = some d → Dp K H v d ∧ d.canLay0 = true ∧ d.depth ≤ k) :
    ∀ {xs : List PV} {vs : List V} {ds : List PyData}, VRs K ca H m xs vs → toDs f xs = some ds → DpAll K H vs ds ∧ PyData.canLayAll0 ds = true ∧ PyData.depthAll ds ≤ k
  | _, _, ds, .nil, e => by
    simp only [toDs, Option.some.injEq] at e
    subst e
    exact ⟨.nil, rfl, by simp [PyData.depthAll]⟩
  | _, _, ds, .cons h r, e => by
    simp only [toDs] at e
    split at e
    · rename_i d ds' e1 e2
      cases e
      obtain ⟨a1, a2, a3⟩ := ih h e1
      obtain ⟨b1, b2, b3⟩ := toDs_ok ih r e2
      refine ⟨.cons a1 b1, by simp only [PyData.canLayAll0, a2, b2]; rfl, ?_⟩
      simp only [PyData.depthAll]
      omega
    · cases e
theorem toD_ok (s : SR K ca H m st) : ∀ {k : Nat} {x : PV} {v : V} {d : PyData}, VR K ca H m x v → toD k st x = some d → Dp K H v d ∧ d.canLay0 = true ∧ d.depth ≤ k := by
  intro k
  induction k with
  | zero => intro x v d _ e; cases e
  | succ k ih =>
    intro x v d h e
    cases h with
    | non => simp only [toD, Option.some.injEq] at e; subst e; exact ⟨.non, rfl, by simp [PyData.depth]⟩
    | bl b => simp only [toD, Option.some.injEq] at e; subst e; exact ⟨.bl b, rfl, by simp [PyData.depth]⟩
    | int i => simp only [toD, Option.some.injEq] at e; subst e; exact ⟨.int i, rfl, by simp [PyData.depth]⟩
    | str x =>
      simp only [toD] at e
      split at e
      · rename_i hx
        cases e
        exact ⟨.str x, hx, by simp [PyData.depth]⟩
      · cases e
    | ty n => simp only [toD, reduceCtorEq] at e
    | cls n => simp only [toD, reduceCtorEq] at e
    | tup hs r =>
      simp only [toD] at e
      obtain ⟨ds, e1, rfl⟩ := Option.map_eq_some_iff.mp e
      obtain ⟨a, b, c⟩ := toDs_ok ih r e1
      refine ⟨.tup hs a, by simpa only [PyData.canLay0] using b, ?_⟩
      simp only [PyData.depth]
      omega
    | frz hs r =>
      simp only [toD] at e
      obtain ⟨ds, e1, rfl⟩ := Option.map_eq_some_iff.mp e
      obtain ⟨a, b, c⟩ := toDs_ok ih r e1
      refine ⟨.lst hs.sq a, by simpa only [PyData.canLay0] using b, ?_⟩
      simp only [PyData.depth]
      omega
    | ref hn =>
      simp only [toD] at e
      split at e
      · rename_i xs hx
        obtain ⟨vs, e2, r⟩ := getL s hx hn
        obtain ⟨ds, e1, rfl⟩ := Option.map_eq_some_iff.mp e
        obtain ⟨a, b, c⟩ := toDs_ok ih r e1
        refine ⟨.lst (SqL.of e2) a, by simpa only [PyData.canLay0] using b, ?_⟩
        simp only [PyData.depth]
        omega
      · cases e
theorem scEq_ok {x y : PV} {x' y' : V} {b : Bool} (rx : VR K ca H m x x') (ry : VR K ca H m y y') (e : scEq x y = some b) : scal x' y' = true ∧ decide (x' = y') = b := by
  cases rx <;> cases ry <;> simp only [scEq, Option.some.injEq, reduceCtorEq] at e <;> subst e <;> refine ⟨rfl, ?_⟩ <;> simp
theorem eqB_ok (s : SR K ca H m st) {x y : PV} {x' y' : V} {b : Bool} (rx : VR K ca H m x x') (ry : VR K ca H m y y') (e : eqB x y st = some b) :
    (scal x' y' = true ∧ decide (x' = y') = b) ∨ ∃ d d', Dp K H x' d ∧ Dp K H y' d' ∧ SeqAt.shaped d = true ∧ SeqAt.shaped d' = true ∧ PyData.eqv d d' = b := by
  unfold eqB at e
  split at e
  · rename_i b' e1
    cases e
    exact .inl (scEq_ok rx ry e1)
  · split at e
    · rename_i d d' e1 e2
      cases e
      obtain ⟨a1, a2, a3⟩ := toD_ok s rx e1
      obtain ⟨b1, b2, b3⟩ := toD_ok s ry e2
      refine .inr ⟨d, d', a1, b1, ?_, ?_, rfl⟩
      · unfold SeqAt.shaped; rw [a2, decide_eq_true a3]; rfl
      · unfold SeqAt.shaped; rw [b2, decide_eq_true b3]; rfl
    · cases e
end
section
variable {X : Cx} {ca : String → Addr}
theorem of_eq (hu : X.A.units + 64 < cLine) : OpF X ca (compareOp .Eq) eqV := by
  refine ⟨_, OpR.or op_eq (op_eqD hu), fun H m st x y x' y' Q s rx ry p => ?_⟩
  unfold eqV at p
  cases e : eqB x y st with
  | none => rw [e] at p; exact p.elim
  | some b =>
    rw [e] at p
    have q := p.val s (.bl b)
    rcases eqB_ok s rx ry e with ⟨h1, h2⟩ | ⟨d, d', h1, h2, h3, h4, h5⟩
    · exact .inl ⟨h1, by rw [h2]; exact q⟩
    · exact .inr ⟨d, d', h1, h2, h3, h4, by rw [h5]; exact q⟩
theorem of_ne (hu : X.A.units + 64 < cLine) : OpF X ca (compareOp .NotEq) neV := by
  refine ⟨_, OpR.or op_ne (op_neD hu), fun H m st x y x' y' Q s rx ry p => ?_⟩
  unfold neV at p
  cases e : eqB x y st with
  | none => rw [e] at p; exact p.elim
  | some b =>
    rw [e] at p
    have q := p.val s (.bl (!b))
    rcases eqB_ok s rx ry e with ⟨h1, h2⟩ | ⟨d, d', h1, h2, h3, h4, h5⟩
    · exact .inl ⟨h1, by rw [h2]; exact q⟩
    · exact .inr ⟨d, d', h1, h2, h3, h4, by rw [h5]; exact q⟩
end
end
end FL
end
section
set_option linter.all false
set_option maxRecDepth 100000
namespace FL
open PySem PySem.Spec PyProof.Rows L2
noncomputable section
/-! ## built-ins -/
def lenV (xs : List PV) (st : Store) : O PV := match xs with
  | [.str x] => if x.length ≤ sizeLine then some (.int x.length, st) else none
  | [.tup ys] => some (.int ys.length, st)
  | [.frz ys] => some (.int ys.length, st)
  | [.ref n] => match st[n]? with
    | some (.lst ys) => some (.int ys.length, st)
    | some (.dK kvs) => some (.int kvs.length, st)
    | _ => none
  | _ => none
def absV' (xs : List PV) (st : Store) : O PV := match xs with
  | [.int i] => some (.int (if i < 0 then -i else i), st)
  | _ => none
/-- the ints that stand there -/
def intsOf : List PV → Option (List Int)
  | [] => some []
  | .int i :: xs => (intsOf xs).map fun r => i :: r
  | _ :: _ => none
def strsOf : List PV → Option (List Str)
  | [] => some []
  | .str i :: xs => (strsOf xs).map fun r => i :: r
  | _ :: _ => none
def blsOf : List PV → Option (List Bool)
  | [] => some []
  | .bl i :: xs => (blsOf xs).map fun r => i :: r
  | _ :: _ => none
/-- a list's items -/
def lstAt (st : Store) : PV → Option (List PV)
  | .frz xs => some xs
  | .ref n => match st[n]? with
    | some (.lst xs) => some xs
    | _ => none
  | _ => none
/-- a list's or a tuple's items -/
def seqAt (st : Store) : PV → Option (List PV)
  | .tup xs => some xs
  | v => lstAt st v
def maxL (ns : List Int) : Int := ns.foldl max (ns.headD 0)
def minL (ns : List Int) : Int := ns.foldl min (ns.headD 0)
def maxV (xs : List PV) (st : Store) : O PV := match xs with
  | [.int i, .int j] => some (.int (max i j), st)
  | [v] => match (lstAt st v).bind intsOf with
    | some ns => if ns = [] then none else some (.int (maxL ns), st)
    | none => none
  | _ => none
def minV (xs : List PV) (st : Store) : O PV := match xs with
  | [.int i, .int j] => some (.int (min i j), st)
  | [v] => match (lstAt st v).bind intsOf with
    | some ns => if ns = [] then none else some (.int (minL ns), st)
    | none => none
  | _ => none
def sumV (xs : List PV) (st : Store) : O PV := match xs with
  | [v] => ((lstAt st v).bind intsOf).map fun ns => (.int ns.sum, st)
  | _ => none
def anyV (xs : List PV) (st : Store) : O PV := match xs with
  | [v] => ((lstAt st v).bind blsOf).map fun ns => (.bl (ns.any id), st)
  | _ => none
def allV (xs : List PV) (st : Store) : O PV := match xs with
  | [v] => ((lstAt st v).bind blsOf).map fun ns => (.bl (ns.all id), st)
  | _ => none
def tupleV (xs : List PV) (st : Store) : O PV := match xs with
  | [v] => (seqAt st v).map fun ys => (.tup ys, st)
  | _ => none
def listV (xs : List PV) (st : Store) : O PV := match xs with
  | [v] => (seqAt st v).map fun ys => (.ref st.length, st ++ [.lst ys])
  | _ => none
def strV (xs : List PV) (st : Store) : O PV := match xs with
  | [.int i] => if i.natAbs.log2 < 1920 then some (.str (toString i), st) else none
  | _ => none
def intV (xs : List PV) (st : Store) : O PV := match xs with
  | [.str a] => match PySem.intText? a with
    | some n => if a.length ≤ 640 then some (.int n, st) else none
    | none => none
  | [.int i] => some (.int i, st)
  | [.bl b] => some (.int (if b then 1 else 0), st)
  | _ => none
def ordV (xs : List PV) (st : Store) : O PV := match xs with
  | [.str x] => if x.length = 1 then some (.int (x.cps.getD 0 0 : Nat), st) else none
  | _ => none
/-- a value's built-in type -/
def typV (st : Store) : PV → Option String
  | .non => some "NoneType"
  | .bl _ => some "bool"
  | .int _ => some "int"
  | .str _ => some "str"
  | .tup _ => some "tuple"
  | .frz _ => some "list"
  | .ref n => match st[n]? with
    | some (.lst _) => some "list"
    | some (.dK _) => some "dict"
    | _ => none
  | _ => none
def isiV (xs : List PV) (st : Store) : O PV := match xs with
  | [v, .ty n] => match typV st v with
    | some t => (kitB t n).map fun b => (.bl b, st)
    | none => none
  | _ => none
def idxV (x y : PV) (st : Store) : O PV := match y with
  | .int i => match x with
    | .str z => if z.length ≤ sizeLine then (atI z.cps.toList i).map fun c => (.str ⟨#[c]⟩, st) else none
    | v => match seqAt st v with
      | some xs => (atI xs i).map fun v => (v, st)
      | none => none
  | _ => none
def cutP (xs : List PV) (lo hi : Option Int) : List PV := (xs.drop (HT.sIx xs.length 0 lo)).take (HT.sIx xs.length xs.length hi - HT.sIx xs.length 0 lo)
def slV (x : PV) (lo hi : Option Int) (st : Store) : O PV := match x with
  | .str z => if z.length ≤ sizeLine then some (.str (cutS z lo hi), st) else none
  | .tup xs => some (.tup (cutP xs lo hi), st)
  | v => (lstAt st v).map fun xs => (.ref st.length, st ++ [.lst (cutP xs lo hi)])
def flatP : PV → Bool
  | .non => true
  | .bl _ => true
  | .int _ => true
  | .str _ => true
  | _ => false
def eqP : PV → PV → Bool
  | .non, .non => true
  | .bl a, .bl b => a == b
  | .bl a, .int b => (if a then 1 else 0) == b
  | .int a, .bl b => a == (if b then 1 else 0)
  | .int a, .int b => a == b
  | .str a, .str b => a == b
  | _, _ => false
/-- x in y -/
def inB (x y : PV) (st : Store) : Option Bool := match y with
  | .str z => match x with
    | .str a => if a.cps.size = 1 then some (decide (a.cps.getD 0 0 ∈ z.cps.toList)) else some (!(Builtin.Str.occurrences z a 0 z.length 1).isEmpty)
    | _ => none
  | v => match seqAt st v with
    | some ys => if flatP x = true ∧ ys.all flatP = true then some (ys.any fun y => eqP y x) else match lstAt st v with
      | some zs => match toD 64 st x, toDs (toD 63 st) zs with
        | some d, some ds => some (ds.any fun z => PyData.eqv z d)
        | _, _ => none
      | none => none
    | none => none
def inV (x y : PV) (st : Store) : O PV := (inB x y st).map fun b => (.bl b, st)
def ninV (x y : PV) (st : Store) : O PV := (inB x y st).map fun b => (.bl (!b), st)

section
variable {K : PySem.W.Frag} {ca : String → Addr} {m m' : List Addr} {H H' : Hp} {st : Store}
theorem ints_ok : ∀ {xs : List PV} {vs : List V} {ns : List Int}, VRs K ca H m xs vs → intsOf xs = some ns → vs = ns.map V.int
  | _, _, ns, .nil, e => by simp only [intsOf, Option.some.injEq] at e; subst e; rfl
  | _, _, ns, .cons h r, e => by
    cases h with
    | int i =>
      simp only [intsOf] at e
      obtain ⟨r', e1, rfl⟩ := Option.map_eq_some_iff.mp e
      rw [ints_ok r e1, List.map_cons]
    | _ => cases e
theorem strs_ok : ∀ {xs : List PV} {vs : List V} {ns : List Str}, VRs K ca H m xs vs → strsOf xs = some ns → vs = ns.map V.str
  | _, _, ns, .nil, e => by simp only [strsOf, Option.some.injEq] at e; subst e; rfl
  | _, _, ns, .cons h r, e => by
    cases h with
    | str i =>
      simp only [strsOf] at e
      obtain ⟨r', e1, rfl⟩ := Option.map_eq_some_iff.mp e
      rw [strs_ok r e1, List.map_cons]
    | _ => cases e
theorem bls_ok : ∀ {xs : List PV} {vs : List V} {ns : List Bool}, VRs K ca H m xs vs → blsOf xs = some ns → vs = ns.map V.bl
  | _, _, ns, .nil, e => by simp only [blsOf, Option.some.injEq] at e; subst e; rfl
  | _, _, ns, .cons h r, e => by
    cases h with
    | bl i =>
      simp only [blsOf] at e
      obtain ⟨r', e1, rfl⟩ := Option.map_eq_some_iff.mp e
      rw [bls_ok r e1, List.map_cons]
    | _ => cases e
theorem lst_ok (s : SR K ca H m st) {v : PV} {w : V} {xs : List PV} (r : VR K ca H m v w) (e : lstAt st v = some xs) : ∃ a vs, w = .ref a ∧ SqL K H a vs ∧ VRs K ca H m xs vs := by
  cases r with
  | frz h r => simp only [lstAt, Option.some.injEq] at e; subst e; exact ⟨_, _, rfl, h.sq, r⟩
  | ref hn =>
    simp only [lstAt] at e
    split at e
    · rename_i ys hx
      cases e
      obtain ⟨vs, e1, r1⟩ := getL s hx hn
      exact ⟨_, _, rfl, SqL.of e1, r1⟩
    · cases e
  | _ => cases e
theorem seq_ok (s : SR K ca H m st) {v : PV} {w : V} {xs : List PV} (r : VR K ca H m v w) (e : seqAt st v = some xs) : ∃ a vs, w = .ref a ∧ (SqL K H a vs ∨ SqT K H a vs) ∧ VRs K ca H m xs vs := by
  cases r with
  | tup h r => simp only [seqAt, Option.some.injEq] at e; subst e; exact ⟨_, _, rfl, .inr h, r⟩
  | frz h r => simp only [seqAt, lstAt, Option.some.injEq] at e; subst e; exact ⟨_, _, rfl, .inl h.sq, r⟩
  | ref hn =>
    obtain ⟨a, vs, e1, e2, e3⟩ := lst_ok s (.ref hn) (show lstAt st _ = some xs from e)
    exact ⟨a, vs, e1, .inl e2, e3⟩
  | _ => cases e
theorem atI_ok {xs : List PV} {vs : List V} {i : Int} {x : PV} (r : VRs K ca H m xs vs) (e : atI xs i = some x) : ∃ v, atI vs i = some v ∧ VR K ca H m x v := by
  unfold atI at e ⊢
  rw [← r.length]
  cases q : ixN xs.length i with
  | none => rw [q] at e; cases e
  | some j =>
    rw [q] at e
    exact r.get e
theorem cut_ok {xs : List PV} {vs : List V} (r : VRs K ca H m xs vs) (lo hi : Option Int) : VRs K ca H m (cutP xs lo hi) (cutV vs lo hi) := by
  unfold cutP cutV
  rw [← r.length]
  exact (r.drop _).take _
theorem maxL_ok : ∀ (ns : List Int) (a : Int), a ≤ ns.foldl max a ∧ (∀ y ∈ ns, y ≤ ns.foldl max a) ∧ (ns.foldl max a = a ∨ ns.foldl max a ∈ ns)
  | [], a => ⟨Int.le_refl _, fun _ h => (nomatch h), .inl rfl⟩
  | n :: r, a => by
    obtain ⟨h1, h2, h3⟩ := maxL_ok r (max a n)
    rw [List.foldl_cons]
    refine ⟨by omega, fun y hy => ?_, ?_⟩
    · rcases List.mem_cons.mp hy with rfl | hy
      · omega
      · exact h2 y hy
    · rcases h3 with h3 | h3
      · by_cases q : a ≤ n
        · exact .inr (by rw [h3]; rw [show max a n = n by omega]; exact List.mem_cons_self)
        · exact .inl (by rw [h3]; omega)
      · exact .inr (List.mem_cons_of_mem _ h3)
theorem minL_ok : ∀ (ns : List Int) (a : Int), ns.foldl min a ≤ a ∧ (∀ y ∈ ns, ns.foldl min a ≤ y) ∧ (ns.foldl min a = a ∨ ns.foldl min a ∈ ns)
  | [], a => ⟨Int.le_refl _, fun _ h => (nomatch h), .inl rfl⟩
  | n :: r, a => by
    obtain ⟨h1, h2, h3⟩ := minL_ok r (min a n)
    rw [List.foldl_cons]
    refine ⟨by omega, fun y hy => ?_, ?_⟩
    · rcases List.mem_cons.mp hy with rfl | hy
      · omega
      · exact h2 y hy
    · rcases h3 with h3 | h3
      · by_cases q : n ≤ a
        · exact .inr (by rw [h3]; rw [show min a n = n by omega]; exact List.mem_cons_self)
        · exact .inl (by rw [h3]; omega)
      · exact .inr (List.mem_cons_of_mem _ h3)
theorem flat_ok {x : PV} {v : V} (r : VR K ca H m x v) (h : flatP x = true) : flatV v = true := by
  cases r <;> first | rfl | cases h
theorem flats_ok : ∀ {xs : List PV} {vs : List V}, VRs K ca H m xs vs → xs.all flatP = true → vs.all flatV = true
  | _, _, .nil, _ => rfl
  | _, _, .cons h r, e => by
    simp only [List.all_cons, Bool.and_eq_true] at e ⊢
    exact ⟨flat_ok h e.1, flats_ok r e.2⟩
theorem eqP_ok {x y : PV} {v w : V} (rx : VR K ca H m x v) (ry : VR K ca H m y w) : L2.eqV v w = eqP x y := by
  cases rx <;> cases ry <;> rfl
theorem anyP_ok {x : PV} {v : V} (rx : VR K ca H m x v) : ∀ {xs : List PV} {vs : List V}, VRs K ca H m xs vs → L2.inV v vs = xs.any fun y => eqP y x
  | _, _, .nil => rfl
  | _, _, .cons h r => by
    have ih := anyP_ok rx r
    unfold L2.inV at ih ⊢
    rw [List.any_cons, List.any_cons, ih, eqP_ok h rx]
theorem typ_ok (s : SR K ca H m st) {x : PV} {v : V} {t : String} (r : VR K ca H m x v) (e : typV st x = some t) : TyX K H v (.type t) := by
  cases r with
  | non => cases e; exact .base .non
  | bl b => cases e; exact .base (.bl b)
  | int i => cases e; exact .base (.int i)
  | str x => cases e; exact .base (.str x)
  | tup h r =>
    cases e
    rcases h with (h | ⟨o, h⟩) | ⟨o, its, n, h1, h2, _⟩
    · exact .base (.tup h)
    · exact .fTuple h
    · exact .kTuple h1 h2
  | frz h r =>
    cases e
    rcases h with ⟨o, h⟩ | ⟨o, its, n, h1, h2, _⟩
    · exact .base (.frz h)
    · exact .kList h1 h2
  | ref hn =>
    simp only [typV] at e
    split at e
    · rename_i ys hx
      cases e
      obtain ⟨vs, e1, r1⟩ := s.at hx hn
      exact .base (.lst e1)
    · rename_i ys hx
      cases e
      obtain ⟨vs, e1, r1⟩ := s.at hx hn
      exact .base (.dK e1)
    · cases e
  | _ => cases e
end
section
variable {X : Cx} {ca : String → Addr}
theorem CallR.or {f : Value} {r r' : List V → Hp → VK → Prop} (h : CallR X f r) (h' : CallR X f r') : CallR X f (fun xs H Q => r xs H Q ∨ r' xs H Q) := by
  intro pins s σ H xs us Q I r q
  rcases q with q | q
  · exact h pins s σ H xs us Q I r q
  · exact h' pins s σ H xs us Q I r q
theorem vrs1 {K : PySem.W.Frag} {H : Hp} {m : List Addr} {x : PV} {vs : List V} (r : VRs K ca H m [x] vs) : ∃ v, vs = [v] ∧ VR K ca H m x v := by
  cases r with
  | cons h r => cases r; exact ⟨_, rfl, h⟩
theorem vrs2 {K : PySem.W.Frag} {H : Hp} {m : List Addr} {x y : PV} {vs : List V} (r : VRs K ca H m [x, y] vs) : ∃ v w, vs = [v, w] ∧ VR K ca H m x v ∧ VR K ca H m y w := by
  cases r with
  | cons h r => cases r with
    | cons h2 r => cases r; exact ⟨_, _, rfl, h, h2⟩
theorem cb_len : CbF X ca (.builtin "len") lenV := by
  refine ⟨_, CallR.or call_len call_lenD, fun H m st xs vs Q s r p => ?_⟩
  unfold lenV at p
  split at p
  · obtain ⟨v, rfl, r1⟩ := vrs1 r
    cases r1
    split at p
    · rename_i x hz
      exact .inl ⟨_, x.length, rfl, ⟨hz, rfl⟩, p.val s (.int _)⟩
    · exact p.elim
  · obtain ⟨v, rfl, r1⟩ := vrs1 r
    cases r1 with
    | tup h rr => exact .inl ⟨_, _, rfl, .inr ⟨_, h, rr.length⟩, p.val s (.int _)⟩
  · obtain ⟨v, rfl, r1⟩ := vrs1 r
    cases r1 with
    | frz h rr => exact .inl ⟨_, _, rfl, .inl ⟨_, h.sq, rr.length⟩, p.val s (.int _)⟩
  · obtain ⟨v, rfl, r1⟩ := vrs1 r
    cases r1 with
    | ref hn =>
      split at p
      · rename_i ys hx
        obtain ⟨vs, e1, r1⟩ := getL s hx hn
        exact .inl ⟨_, _, rfl, .inl ⟨_, SqL.of e1, r1.length⟩, p.val s (.int _)⟩
      · rename_i ys hx
        obtain ⟨vs, e1, r1⟩ := s.at hx hn
        refine .inr ⟨_, _, rfl, e1, ?_⟩
        have : ys.length = vs.length := Paired.length r1
        rw [← this]
        exact p.val s (.int _)
      · exact p.elim
  · exact p.elim
theorem cb_abs : CbF X ca (.builtin "abs") absV' := by
  refine ⟨_, call_abs, fun H m st xs vs Q s r p => ?_⟩
  unfold absV' at p
  split at p
  · obtain ⟨v, rfl, r1⟩ := vrs1 r
    cases r1
    exact ⟨_, rfl, p.val s (.int _)⟩
  · exact p.elim
theorem cb_max (hc : X.calm = true) : CbF X ca (.builtin "max") maxV := by
  refine ⟨_, CallR.or (call_max2 hc) (cr_max hc), fun H m st xs vs Q s r p => ?_⟩
  unfold maxV at p
  split at p
  · rename_i i j
    obtain ⟨v, w, rfl, r1, r2⟩ := vrs2 r
    cases r1
    cases r2
    refine .inl ⟨_, _, rfl, ?_⟩
    rw [show (if j > i then j else i) = max i j by split <;> omega]
    exact p.val s (.int _)
  · obtain ⟨v, rfl, r1⟩ := vrs1 r
    split at p
    · rename_i ns he
      obtain ⟨ys, e1, e2⟩ := Option.bind_eq_some_iff.mp he
      obtain ⟨a, vs, rfl, hq, r2⟩ := lst_ok s r1 e1
      obtain rfl := ints_ok r2 e2
      split at p
      · exact p.elim
      · rename_i hne
        refine .inr ⟨a, ns, rfl, hq, by cases ns with | nil => exact absurd rfl hne | cons _ _ => simp, fun mm hm hle => ?_⟩
        have e : mm = maxL ns := by
          cases ns with
          | nil => cases hm
          | cons n r =>
            obtain ⟨q1, q2, q3⟩ := maxL_ok (n :: r) n
            have i1 := q2 mm hm
            have i2 : maxL (n :: r) ∈ n :: r := by
              rcases q3 with q3 | q3
              · show List.foldl max n (n :: r) ∈ _
                rw [q3]; exact List.mem_cons_self
              · exact q3
            have i3 := hle _ i2
            show mm = List.foldl max n (n :: r)
            have i4 : maxL (n :: r) = List.foldl max n (n :: r) := rfl
            omega
        rw [e]
        exact p.val s (.int _)
    · exact p.elim
  · exact p.elim
theorem cb_min (hc : X.calm = true) : CbF X ca (.builtin "min") minV := by
  refine ⟨_, CallR.or (call_min2 hc) (cr_min hc), fun H m st xs vs Q s r p => ?_⟩
  unfold minV at p
  split at p
  · rename_i i j
    obtain ⟨v, w, rfl, r1, r2⟩ := vrs2 r
    cases r1
    cases r2
    refine .inl ⟨_, _, rfl, ?_⟩
    rw [show (if j < i then j else i) = min i j by split <;> omega]
    exact p.val s (.int _)
  · obtain ⟨v, rfl, r1⟩ := vrs1 r
    split at p
    · rename_i ns he
      obtain ⟨ys, e1, e2⟩ := Option.bind_eq_some_iff.mp he
      obtain ⟨a, vs, rfl, hq, r2⟩ := lst_ok s r1 e1
      obtain rfl := ints_ok r2 e2
      split at p
      · exact p.elim
      · rename_i hne
        refine .inr ⟨a, ns, rfl, hq, by cases ns with | nil => exact absurd rfl hne | cons _ _ => simp, fun mm hm hle => ?_⟩
        have e : mm = minL ns := by
          cases ns with
          | nil => cases hm
          | cons n r =>
            obtain ⟨q1, q2, q3⟩ := minL_ok (n :: r) n
            have i1 := q2 mm hm
            have i2 : minL (n :: r) ∈ n :: r := by
              rcases q3 with q3 | q3
              · show List.foldl min n (n :: r) ∈ _
                rw [q3]; exact List.mem_cons_self
              · exact q3
            have i3 := hle _ i2
            show mm = List.foldl min n (n :: r)
            have i4 : minL (n :: r) = List.foldl min n (n :: r) := rfl
            omega
        rw [e]
        exact p.val s (.int _)
    · exact p.elim
  · exact p.elim
theorem cb_sum (hc : X.calm = true) : CbF X ca (.builtin "sum") sumV := by
  refine ⟨_, cr_sum hc, fun H m st xs vs Q s r p => ?_⟩
  unfold sumV at p
  split at p
  · obtain ⟨v, rfl, r1⟩ := vrs1 r
    rename_i w
    cases he : (lstAt st w).bind intsOf with
    | none => rw [he] at p; exact p.elim
    | some ns =>
      rw [he] at p
      obtain ⟨ys, e1, e2⟩ := Option.bind_eq_some_iff.mp he
      obtain ⟨a, vs, rfl, hq, r2⟩ := lst_ok s r1 e1
      obtain rfl := ints_ok r2 e2
      exact ⟨a, ns, rfl, hq, p.val s (.int _)⟩
  · exact p.elim
theorem cb_any (hc : X.calm = true) : CbF X ca (.builtin "any") anyV := by
  refine ⟨_, cr_any hc, fun H m st xs vs Q s r p => ?_⟩
  unfold anyV at p
  split at p
  · obtain ⟨v, rfl, r1⟩ := vrs1 r
    rename_i w
    cases he : (lstAt st w).bind blsOf with
    | none => rw [he] at p; exact p.elim
    | some ns =>
      rw [he] at p
      obtain ⟨ys, e1, e2⟩ := Option.bind_eq_some_iff.mp he
      obtain ⟨a, vs, rfl, hq, r2⟩ := lst_ok s r1 e1
      obtain rfl := bls_ok r2 e2
      exact ⟨a, ns, rfl, hq, p.val s (.bl _)⟩
  · exact p.elim
theorem cb_all (hc : X.calm = true) : CbF X ca (.builtin "all") allV := by
  refine ⟨_, cr_all hc, fun H m st xs vs Q s r p => ?_⟩
  unfold allV at p
  split at p
  · obtain ⟨v, rfl, r1⟩ := vrs1 r
    rename_i w
    cases he : (lstAt st w).bind blsOf with
    | none => rw [he] at p; exact p.elim
    | some ns =>
      rw [he] at p
      obtain ⟨ys, e1, e2⟩ := Option.bind_eq_some_iff.mp he
      obtain ⟨a, vs, rfl, hq, r2⟩ := lst_ok s r1 e1
      obtain rfl := bls_ok r2 e2
      exact ⟨a, ns, rfl, hq, p.val s (.bl _)⟩
  · exact p.elim
theorem cb_tuple : CbF X ca (.type "tuple") tupleV := by
  refine ⟨_, call_tuple_of, fun H m st xs vs Q s r p => ?_⟩
  unfold tupleV at p
  split at p
  · obtain ⟨v, rfl, r1⟩ := vrs1 r
    rename_i w
    cases r1 with
    | tup h rr => exact ⟨_, _, rfl, .inr ⟨h, p.val s (.tup h rr)⟩⟩
    | frz h rr => exact ⟨_, _, rfl, .inl ⟨h.sq, fun l hl => p.newT s rr hl⟩⟩
    | ref hn =>
      simp only [seqAt, lstAt] at p
      split at p
      · rename_i ys hx
        obtain ⟨vs, e1, r1⟩ := getL s hx hn
        exact ⟨_, _, rfl, .inl ⟨SqL.of e1, fun l hl => p.newT s r1 hl⟩⟩
      · exact p.elim
    | _ => exact p.elim
  · exact p.elim
theorem cb_list : CbF X ca (.type "list") listV := by
  refine ⟨_, call_list_of, fun H m st xs vs Q s r p => ?_⟩
  unfold listV at p
  split at p
  · obtain ⟨v, rfl, r1⟩ := vrs1 r
    rename_i w
    cases he : seqAt st w with
    | none => rw [he] at p; exact p.elim
    | some ys =>
      rw [he] at p
      obtain ⟨a, vs, rfl, hq, r2⟩ := seq_ok s r1 he
      exact ⟨a, vs, rfl, hq, fun l hl => p.newL s r2 hl⟩
  · exact p.elim
theorem cb_str : CbF X ca (.type "str") strV := by
  refine ⟨_, call_str_int, fun H m st xs vs Q s r p => ?_⟩
  unfold strV at p
  split at p
  · obtain ⟨v, rfl, r1⟩ := vrs1 r
    cases r1
    split at p
    · rename_i hz
      exact ⟨_, rfl, hz, p.val s (.str _)⟩
    · exact p.elim
  · exact p.elim
theorem cb_int : CbF X ca (.type "int") intV := by
  refine ⟨_, CallR.or call_int_str call_int1, fun H m st xs vs Q s r p => ?_⟩
  unfold intV at p
  split at p
  · obtain ⟨v, rfl, r1⟩ := vrs1 r
    cases r1
    split at p
    · rename_i n hn
      split at p
      · rename_i hz
        exact .inl ⟨_, n, rfl, hn, hz, p.val s (.int _)⟩
      · exact p.elim
    · exact p.elim
  · obtain ⟨v, rfl, r1⟩ := vrs1 r
    cases r1
    exact .inr (.inl ⟨_, rfl, p.val s (.int _)⟩)
  · obtain ⟨v, rfl, r1⟩ := vrs1 r
    cases r1
    exact .inr (.inr ⟨_, rfl, p.val s (.int _)⟩)
  · exact p.elim
theorem cb_ord : CbF X ca (.builtin "ord") ordV := by
  refine ⟨_, call_ord, fun H m st xs vs Q s r p => ?_⟩
  unfold ordV at p
  split at p
  · obtain ⟨v, rfl, r1⟩ := vrs1 r
    cases r1
    split at p
    · rename_i hz
      exact ⟨_, rfl, hz, p.val s (.int _)⟩
    · exact p.elim
  · exact p.elim
theorem cb_isi : CbF X ca (.builtin "isinstance") isiV := by
  refine ⟨_, call_isi, fun H m st xs vs Q s r p => ?_⟩
  unfold isiV at p
  split at p
  · rename_i v0 n0
    obtain ⟨v, w, rfl, r1, r2⟩ := vrs2 r
    cases r2
    split at p
    · rename_i t ht
      cases hk : kitB t n0 with
      | none => rw [hk] at p; exact p.elim
      | some b =>
        rw [hk] at p
        exact ⟨v, _, _, _, b, rfl, .ty _, typ_ok s r1 ht, kit_ty hk, p.val s (.bl b)⟩
    · exact p.elim
  · exact p.elim
theorem ix_any : IxF X ca idxV := by
  refine ⟨_, ix_seq, fun H m st x y x' y' Q s rx ry p => ?_⟩
  unfold idxV at p
  split at p
  · cases ry
    rename_i i
    split at p
    · cases rx
      rename_i z
      split at p
      · rename_i hz
        cases he : atI z.cps.toList i with
        | none => rw [he] at p; exact p.elim
        | some c =>
          rw [he] at p
          exact .inr (.inr ⟨z, i, c, rfl, rfl, hz, he, p.val s (.str _)⟩)
      · exact p.elim
    · split at p
      · rename_i xs he
        obtain ⟨a, vs, rfl, hq, r2⟩ := seq_ok s rx he
        cases hi : atI xs i with
        | none => rw [hi] at p; exact p.elim
        | some v =>
          rw [hi] at p
          obtain ⟨w, e1, e2⟩ := atI_ok r2 hi
          rcases hq with hq | hq
          · exact .inl ⟨a, vs, i, w, rfl, rfl, hq, e1, p.val s e2⟩
          · exact .inr (.inl ⟨a, vs, i, w, rfl, rfl, hq, e1, p.val s e2⟩)
      · exact p.elim
  · exact p.elim
/-! ### in -/
theorem of_in (hu : X.A.units + 65 < cLine) : OpF X ca (compareOp .In) inV := by
  refine ⟨_, OpR.or op_in_sign (OpR.or op_in_str (OpR.or op_in_seq (op_inD hu))), fun H m st x y x' y' Q s rx ry p => ?_⟩
  unfold inV inB at p
  split at p
  · cases ry
    rename_i z
    split at p
    · cases rx
      rename_i a
      split at p
      · rename_i h1
        refine .inl ⟨a.cps.getD 0 0, z, ?_, rfl, p.val s (.bl _)⟩
        obtain ⟨⟨l⟩⟩ := a
        match l, h1 with
        | [c], _ => rfl
      · exact .inr (.inl ⟨a, z, rfl, rfl, p.val s (.bl _)⟩)
    · exact p.elim
  · split at p
    · rename_i ys he
      obtain ⟨a, vs, e0, hq, r2⟩ := seq_ok s ry he
      split at p
      · rename_i hf
        subst e0
        refine .inr (.inr (.inl ⟨a, vs, rfl, hq, flat_ok rx hf.1, flats_ok r2 hf.2, ?_⟩))
        show Q (.bl (L2.inV x' vs)) H
        rw [anyP_ok rx r2]
        exact p.val s (.bl _)
      · split at p
        · rename_i zs hz
          obtain ⟨a2, ws, e1, hq2, r3⟩ := lst_ok s ry hz
          split at p
          · rename_i d ds h1 h2
            obtain ⟨a1, a2, a3⟩ := toD_ok s rx h1
            obtain ⟨b1, b2, b3⟩ := toDs_ok (fun h e => toD_ok s h e) r3 h2
            subst e1
            refine .inr (.inr (.inr ⟨d, ds, a1, .lst hq2 b1, ?_, ?_, p.val s (.bl _)⟩))
            · unfold SeqAt.shaped; rw [a2, decide_eq_true a3]; rfl
            · unfold SeqAt.shaped
              rw [decide_eq_true (show (PyData.list ds).depth ≤ 64 by simp only [PyData.depth]; omega)]
              simp only [PyData.canLay0, b2]
              rfl
          · exact p.elim
        · exact p.elim
    · exact p.elim
theorem of_nin (hu : X.A.units + 65 < cLine) : OpF X ca (compareOp .NotIn) ninV := by
  refine ⟨_, OpR.or op_notIn_sign (OpR.or op_notin_str (OpR.or op_notIn_seq (op_notInD hu))), fun H m st x y x' y' Q s rx ry p => ?_⟩
  unfold ninV inB at p
  split at p
  · cases ry
    rename_i z
    split at p
    · cases rx
      rename_i a
      split at p
      · rename_i h1
        refine .inl ⟨a.cps.getD 0 0, z, ?_, rfl, p.val s (.bl _)⟩
        obtain ⟨⟨l⟩⟩ := a
        match l, h1 with
        | [c], _ => rfl
      · exact .inr (.inl ⟨a, z, rfl, rfl, p.val s (.bl _)⟩)
    · exact p.elim
  · split at p
    · rename_i ys he
      obtain ⟨a, vs, e0, hq, r2⟩ := seq_ok s ry he
      split at p
      · rename_i hf
        subst e0
        refine .inr (.inr (.inl ⟨a, vs, rfl, hq, flat_ok rx hf.1, flats_ok r2 hf.2, ?_⟩))
        show Q (.bl (!L2.inV x' vs)) H
        rw [anyP_ok rx r2]
        exact p.val s (.bl _)
      · split at p
        · rename_i zs hz
          obtain ⟨a2, ws, e1, hq2, r3⟩ := lst_ok s ry hz
          split at p
          · rename_i d ds h1 h2
            obtain ⟨a1, a2, a3⟩ := toD_ok s rx h1
            obtain ⟨b1, b2, b3⟩ := toDs_ok (fun h e => toD_ok s h e) r3 h2
            subst e1
            refine .inr (.inr (.inr ⟨d, ds, a1, .lst hq2 b1, ?_, ?_, p.val s (.bl _)⟩))
            · unfold SeqAt.shaped; rw [a2, decide_eq_true a3]; rfl
            · unfold SeqAt.shaped
              rw [decide_eq_true (show (PyData.list ds).depth ≤ 64 by simp only [PyData.depth]; omega)]
              simp only [PyData.canLay0, b2]
              rfl
          · exact p.elim
        · exact p.elim
    · exact p.elim
end

/-! ## slices -/
abbrev FO := Env → Store → R (Option Int)
def noO : FO := fun _ st => .ok none st
def asI (v : PV) (st : Store) : R (Option Int) := match v with
  | .int i => .ok (some i) st
  | _ => .no
def someO (f : FE) : FO := fun e st => (f e st).bind asI
def sliF (fo : FE) (fl fh : FO) : FE := fun e st => (fo e st).bind fun o s1 => (fl e s1).bind fun l s2 => (fh e s2).bind fun h s3 => R.of (slV o l h s3)
section
variable {X : Cx} {W : WX} {ca : String → Addr} {pos p2 : Pos}
structure JO (X : Cx) (W : WX) (ca : String → Addr) (e : Option Expr) (f : FO) : Prop where
  ex : ∃ t, L2.PO X e t ∧ ∀ σ H m env st Q, SR X.K ca H m st → ER X.K ca H m env σ → Post X.K ca (fun _ _ a b => a = b) (EW W ca σ) m H Q (f env st) → t σ H Q
theorem jo_none : JO X W ca none noO := ⟨_, po_none, fun σ H m env st Q s e h => h.ok s rfl⟩
theorem jo_some {e : Expr} {f : FE} (he : JE X W ca e f) : JO X W ca (some e) (someO f) := by
  obtain ⟨t, p, r⟩ := he.ex
  refine ⟨_, po_some p, fun σ H m env st Q s e h => ?_⟩
  refine r σ H m env st _ s e (Post.bind h fun x st1 m1 x' H1 p1 k1 s1 r1 h1 => ?_)
  cases r1 with
  | int i => exact ⟨i, rfl, h1.ok s1 rfl⟩
  | _ => exact h1.elim
theorem je_sl {e : Expr} {lo hi : Option Expr} {fo : FE} {fl fh : FO} (he : JE X W ca e fo) (hl : JO X W ca lo fl) (hh : JO X W ca hi fh) : JE X W ca (.Subscript e (.Slice lo hi none p2) pos) (sliF fo fl fh) := by
  obtain ⟨t, p, r⟩ := he.ex
  obtain ⟨t1, p1, r1⟩ := hl.ex
  obtain ⟨t2, p2, r2⟩ := hh.ex
  refine ⟨_, pe_slice (SlR.or sl_str (SlR.or sl_tupA sl_list)) p p1 p2, fun σ H m env st Q s e h => ?_⟩
  refine r σ H m env st _ s e (Post.bind h fun x st1 m1 x' H1 q1 k1 s1 rr1 h1 => ?_)
  refine r1 σ H1 m1 env st1 _ s1 (e.mono q1 k1) (Post.bind h1 fun l st2 m2 l' H2 q2 k2 s2 rr2 h2 => ?_)
  refine r2 σ H2 m2 env st2 _ s2 ((e.mono q1 k1).mono q2 k2) (Post.bind h2 fun u st3 m3 u' H3 q3 k3 s3 rr3 h3 => ?_)
  obtain rfl : l = l' := rr2
  obtain rfl : u = u' := rr3
  have rx := rr1.mono (q2.trans q3) (k2.trans k3)
  have hp := h3.of
  unfold slV at hp
  split at hp
  · cases rx
    rename_i z
    split at hp
    · rename_i hz
      exact .inl ⟨z, rfl, hz, hp.val s3 (.str _)⟩
    · exact hp.elim
  · cases rx with
    | tup hs rr =>
      rename_i xs a vs
      refine .inr (.inl ⟨a, vs, rfl, hs, fun e => ?_, fun _ q hq => hp.newT s3 (cut_ok rr l u) hq⟩)
      have ew : cutP xs l u = xs := by
        unfold cutP
        rw [rr.length, e.1, e.2, Nat.sub_zero, List.drop_zero, List.take_of_length_le (by rw [rr.length]; exact Nat.le_refl _)]
      rw [ew] at hp
      exact hp.val s3 (.tup hs rr)
  · rename_i v _ _
    cases he : lstAt st3 x with
    | none => rw [he] at hp; exact hp.elim
    | some xs =>
      rw [he] at hp
      obtain ⟨a, vs, rfl, hq, rr⟩ := lst_ok s3 rx he
      exact .inr (.inr ⟨a, vs, rfl, hq, fun q hq' => hp.newL s3 (cut_ok rr l u) hq'⟩)
end
end
end FL
end
section
set_option linter.all false
set_option maxRecDepth 100000
namespace FL
open PySem PySem.Spec PyProof.Rows L2
noncomputable section
/-! ## methods of built-in types -/
def tyOk (T : String) (o : PV) (st : Store) : Bool := match o with
  | .str _ => T == "str"
  | .frz _ => T == "list"
  | .ref n => match st[n]? with
    | some (.lst _) => T == "list"
    | some (.dK _) => T == "dict"
    | _ => false
  | _ => false
def bmF' (T : String) (g : PV → List PV → Store → O PV) (fo : FE) (f : FA) : FE := fun e st => (fo e st).bind fun o s1 => if tyOk T o s1 = true then (f e s1).bind fun xs s2 => R.of (g o xs s2) else .no
section
variable {K : PySem.W.Frag} {ca : String → Addr} {m m' : List Addr} {H H' : Hp} {st : Store}
theorem ty_ok (s : SR K ca H m st) {o : PV} {v : V} {T : String} (r : VR K ca H m o v) (e : tyOk T o st = true) : tyV K T v H := by
  cases r with
  | str x => exact eq_of_beq e
  | frz h r => exact .inl ⟨eq_of_beq e, _, h.sq⟩
  | ref hn =>
    simp only [tyOk] at e
    split at e
    · rename_i xs hx
      obtain ⟨vs, e1, _⟩ := getL s hx hn
      exact .inl ⟨eq_of_beq e, _, SqL.of e1⟩
    · rename_i xs hx
      obtain ⟨vs, e1, _⟩ := s.at hx hn
      exact .inr (.inr (.inl ⟨eq_of_beq e, .inl ⟨_, e1⟩⟩))
    · cases e
  | _ => cases e
end
section
variable {X : Cx} {W : WX} {ca : String → Addr}
theorem je_bm {o e : Expr} {es : List Expr} {name : Str} {apos cpos : Pos} {T id : String} {g : PV → List PV → Store → O PV} {fo : FE} {fa : FA} (pa : PlainAttrs T) (slot : Slot T name id) (hty : typeOf (.builtin id) = pure (.type "method_descriptor")) (hm : BmF X ca T id g) (ho : JE X W ca o fo) (ha : JA X W ca (e :: es) fa)
    (hbase : attributeBase o name X.env (eval o X.env) = eval o X.env := by rfl)
    (hfew : ((backTo cpos (starEach (e :: es) X.env)).all (fun x => !x.1) && (backToKw cpos (keywordEach [] X.env)).all (fun x => x.1.isSome)
      && decide ((e :: es).length + ([] : List Keyword).length + (if ([] : List Keyword).isEmpty then 0 else 1) < 30)) = true := by rfl)
    (hline : (apos.endLine == cpos.line) = true := by rfl) (hs : starEach (e :: es) X.env = (false, eval e X.env) :: starEach es X.env := by rfl) (hplain : (backTo cpos (starEach es X.env)).any (·.1) = false := by rfl) :
    JE X W ca (.Call (.Attribute o name apos) (e :: es) [] cpos) (bmF' T g fo fa) := by
  obtain ⟨t, p, r⟩ := ho.ex
  obtain ⟨ta, pA, ra⟩ := ha.ex
  obtain ⟨rr, pm, rm⟩ := hm
  refine ⟨_, pe_bm pa slot hty pm p pA hbase hfew hline hs hplain, fun σ H m env st Q s e h => ?_⟩
  refine r σ H m env st _ s e (Post.bind h fun x st1 m1 x' H1 p1 k1 s1 r1 h1 => ?_)
  split at h1
  · rename_i ht
    refine ⟨ty_ok s1 r1 ht, ra σ H1 m1 env st1 _ s1 (e.mono p1 k1) (Post.bind h1 fun xs st2 m2 vs H2 p2 k2 s2 r2 h2 => ?_)⟩
    exact rm H2 m2 st2 x x' xs vs Q s2 (r1.mono p2 k2) r2 h2.of
  · exact h1.elim
theorem je_bm0 {o : Expr} {name : Str} {apos cpos : Pos} {T id : String} {g : PV → List PV → Store → O PV} {fo : FE} (pa : PlainAttrs T) (slot : Slot T name id) (hty : typeOf (.builtin id) = pure (.type "method_descriptor")) (hm : BmF X ca T id g) (ho : JE X W ca o fo)
    (hbase : attributeBase o name X.env (eval o X.env) = eval o X.env := by rfl) (hline : (apos.endLine == cpos.line) = true := by rfl) : JE X W ca (.Call (.Attribute o name apos) [] [] cpos) (bmF' T g fo nilA) := by
  obtain ⟨t, p, r⟩ := ho.ex
  obtain ⟨rr, pm, rm⟩ := hm
  refine ⟨_, pe_bm0 pa slot hty pm p hbase hline, fun σ H m env st Q s e h => ?_⟩
  refine r σ H m env st _ s e (Post.bind h fun x st1 m1 x' H1 p1 k1 s1 r1 h1 => ?_)
  split at h1
  · rename_i ht
    refine ⟨ty_ok s1 r1 ht, ?_⟩
    exact rm H1 m1 st1 x x' [] [] Q s1 r1 .nil h1.of
  · exact h1.elim
/-- a method's rule by its weaker form -/
theorem BmF.mk {T id : String} {rr : V → List V → Hp → VK → Prop} {g : PV → List PV → Store → O PV} (h : MtR X id rr)
    (q : ∀ H m st o o' xs vs Q, SR X.K ca H m st → VR X.K ca H m o o' → VRs X.K ca H m xs vs → Post0 X.K ca (VR X.K ca) m H Q (g o xs st) → rr o' vs H Q) : BmF X ca T id g := ⟨_, h, q⟩
/-! ### lists -/
def appendV (o : PV) (xs : List PV) (st : Store) : O PV := match o, xs with
  | .ref n, [y] => match st[n]? with
    | some (.lst zs) => if zs.length < sizeLine then some (.non, st.set n (.lst (zs ++ [y]))) else none
    | _ => none
  | _, _ => none
theorem bm_append : BmF X ca "list" "list.append" appendV := by
  refine BmF.mk mt_append fun H m st o o' xs vs Q s ro rs p => ?_
  unfold appendV at p
  split at p
  · cases ro with
    | ref hn =>
      obtain ⟨v, rfl, r1⟩ := vrs1 rs
      split at p
      · rename_i zs hx
        obtain ⟨vs, e1, r2⟩ := getL s hx hn
        split at p
        · rename_i hz
          exact ⟨_, vs, v, rfl, rfl, e1, by rw [← r2.length]; exact hz, p.setL s hn e1 (r2.append (.cons r1 .nil)) .non⟩
        · exact p.elim
      · exact p.elim
  · exact p.elim
def extendV (o : PV) (xs : List PV) (st : Store) : O PV := match o, xs with
  | .ref n, [.ref k] => match st[n]?, st[k]? with
    | some (.lst zs), some (.lst ys) => if zs.length + ys.length ≤ sizeLine then some (.non, st.set n (.lst (zs ++ ys))) else none
    | _, _ => none
  | _, _ => none
theorem bm_extend : BmF X ca "list" "list.extend" extendV := by
  refine BmF.mk mt_extend fun H m st o o' xs vs Q s ro rs p => ?_
  unfold extendV at p
  split at p
  · cases ro with
    | ref hn =>
      obtain ⟨v, rfl, r1⟩ := vrs1 rs
      cases r1 with
      | ref hk =>
        split at p
        · rename_i zs ys hx hy
          obtain ⟨vs, e1, r2⟩ := getL s hx hn
          obtain ⟨ws, e2, r3⟩ := getL s hy hk
          split at p
          · rename_i hz
            exact ⟨_, _, vs, ws, rfl, rfl, e1, e2, by rw [← r2.length, ← r3.length]; exact hz, p.setL s hn e1 (r2.append r3) .non⟩
          · exact p.elim
        · exact p.elim
  · exact p.elim
def popV (o : PV) (xs : List PV) (st : Store) : O PV := match o, xs with
  | .ref n, [] => match st[n]? with
    | some (.lst zs) => match zs[zs.length - 1]? with
      | some y => some (y, st.set n (.lst zs.dropLast))
      | none => none
    | _ => none
  | _, _ => none
theorem bm_pop : BmF X ca "list" "list.pop" popV := by
  refine BmF.mk mt_pop fun H m st o o' xs vs Q s ro rs p => ?_
  unfold popV at p
  split at p
  · cases ro with
    | ref hn =>
      cases rs
      split at p
      · rename_i zs hx
        obtain ⟨vs, e1, r2⟩ := getL s hx hn
        split at p
        · rename_i y hy
          obtain ⟨w, h1, h2⟩ := r2.get hy
          rw [r2.length] at h1
          refine ⟨_, vs, w, rfl, rfl, e1, h1, ?_⟩
          refine p.setL s hn e1 ?_ h2
          rw [List.dropLast_eq_take, List.dropLast_eq_take, ← r2.length]
          exact r2.take _
        · exact p.elim
      · exact p.elim
  · exact p.elim
def reverseV (o : PV) (xs : List PV) (st : Store) : O PV := match o, xs with
  | .ref n, [] => match st[n]? with
    | some (.lst zs) => some (.non, st.set n (.lst zs.reverse))
    | _ => none
  | _, _ => none
theorem bm_reverse : BmF X ca "list" "list.reverse" reverseV := by
  refine BmF.mk mt_reverse fun H m st o o' xs vs Q s ro rs p => ?_
  unfold reverseV at p
  split at p
  · cases ro with
    | ref hn =>
      cases rs
      split at p
      · rename_i zs hx
        obtain ⟨vs, e1, r2⟩ := getL s hx hn
        exact ⟨_, vs, rfl, rfl, e1, p.setL s hn e1 r2.rev .non⟩
      · exact p.elim
  · exact p.elim
def clearV (o : PV) (xs : List PV) (st : Store) : O PV := match o, xs with
  | .ref n, [] => match st[n]? with
    | some (.lst zs) => some (.non, st.set n (.lst []))
    | _ => none
  | _, _ => none
theorem bm_clear : BmF X ca "list" "list.clear" clearV := by
  refine BmF.mk mt_clear fun H m st o o' xs vs Q s ro rs p => ?_
  unfold clearV at p
  split at p
  · cases ro with
    | ref hn =>
      cases rs
      split at p
      · rename_i zs hx
        obtain ⟨vs, e1, r2⟩ := getL s hx hn
        exact ⟨_, vs, rfl, rfl, e1, p.setL s hn e1 .nil .non⟩
      · exact p.elim
  · exact p.elim
/-! ### texts -/
def joinV (o : PV) (xs : List PV) (st : Store) : O PV := match o, xs with
  | .str a, [v] => match (seqAt st v).bind strsOf with
    | some ys => if (ys.map (·.length)).sum + ys.length * a.length ≤ 16777216 then some (.str (Txt.join a ys), st) else none
    | none => none
  | _, _ => none
theorem bm_join : BmF X ca "str" "str.join" joinV := by
  refine BmF.mk mt_join fun H m st o o' xs vs Q s ro rs p => ?_
  unfold joinV at p
  split at p
  · cases ro
    obtain ⟨v, rfl, r1⟩ := vrs1 rs
    split at p
    · rename_i ys he
      obtain ⟨zs, h1, h2⟩ := Option.bind_eq_some_iff.mp he
      obtain ⟨a, vs, rfl, hq, r2⟩ := seq_ok s r1 h1
      obtain rfl := strs_ok r2 h2
      split at p
      · rename_i hz
        exact ⟨_, a, ys, rfl, rfl, hq, hz, p.val s (.str _)⟩
      · exact p.elim
    · exact p.elim
  · exact p.elim
/-- a method text × text -/
def t2V (f : Str → Str → PV) (o : PV) (xs : List PV) (st : Store) : O PV := match o, xs with
  | .str a, [.str b] => some (f a b, st)
  | _, _ => none
abbrev countSV := t2V fun a b => .int (Txt.count a b)
abbrev findSV := t2V fun a b => .int (Txt.find a b)
abbrev startsV := t2V fun a b => .bl (Txt.startswith a b)
abbrev endsV := t2V fun a b => .bl (Txt.endswith a b)
theorem bm_t2 {id : String} {f : Str → Str → PV} {f' : Str → Str → V} (hf : ∀ H m a b, VR X.K ca H m (f a b) (f' a b)) (h : MtR X id (fun x xs H Q => ∃ a b, x = .str a ∧ xs = [.str b] ∧ Q (f' a b) H)) : BmF X ca "str" id (t2V f) := by
  refine BmF.mk h fun H m st o o' xs vs Q s ro rs p => ?_
  unfold t2V at p
  split at p
  · cases ro
    obtain ⟨v, rfl, r1⟩ := vrs1 rs
    cases r1
    exact ⟨_, _, rfl, rfl, p.val s (hf _ _ _ _)⟩
  · exact p.elim
theorem bm_countS : BmF X ca "str" "str.count" countSV := bm_t2 (fun _ _ _ _ => .int _) mt_count
theorem bm_findS : BmF X ca "str" "str.find" findSV := bm_t2 (fun _ _ _ _ => .int _) mt_find
theorem bm_starts : BmF X ca "str" "str.startswith" startsV := bm_t2 (fun _ _ _ _ => .bl _) mt_startswith
theorem bm_ends : BmF X ca "str" "str.endswith" endsV := bm_t2 (fun _ _ _ _ => .bl _) mt_endswith
def starts3V (o : PV) (xs : List PV) (st : Store) : O PV := match o, xs with
  | .str a, [.str b, .int i] => some (.bl (Txt.startswith3 a b i), st)
  | _, _ => none
theorem bm_starts3 : BmF X ca "str" "str.startswith" starts3V := by
  refine BmF.mk mt_startswith3 fun H m st o o' xs vs Q s ro rs p => ?_
  unfold starts3V at p
  split at p
  · cases ro
    obtain ⟨v, w, rfl, r1, r2⟩ := vrs2 rs
    cases r1
    cases r2
    exact ⟨_, _, _, rfl, rfl, p.val s (.bl _)⟩
  · exact p.elim
end

/-! ## what is walked -/
def gdOf (v : PV) (st : Store) : List (Nat × PO) := match v with
  | .ref n => match st[n]? with
    | some o => [(n, o)]
    | none => []
  | _ => []
/-- a list or a tuple, item by item -/
def seqI (f : FE) : FI := fun e st => (f e st).bind fun v s1 => match seqAt s1 v with
  | some xs => .ok ⟨xs, gdOf v s1⟩ s1
  | none => .no
def intL (lo c : Int) (n : Nat) : List PV := (List.range n).map fun i => .int (lo + (i : Nat) * c)
def rng1I (f : FA) : FI := fun e st => (f e st).bind fun xs s1 => match xs with
  | [.int j] => if -(2 ^ 62) ≤ j ∧ j < 2 ^ 62 then .ok ⟨intL 0 1 j.toNat, []⟩ s1 else .no
  | _ => .no
def rng2I (f : FA) : FI := fun e st => (f e st).bind fun xs s1 => match xs with
  | [.int i, .int j] => if -(2 ^ 62) ≤ i ∧ i < 2 ^ 62 ∧ -(2 ^ 62) ≤ j ∧ j < 2 ^ 62 then .ok ⟨intL i 1 (j - i).toNat, []⟩ s1 else .no
  | _ => .no
open Classical in
def rng3I (f : FA) : FI := fun e st => (f e st).bind fun xs s1 => match xs with
  | [.int i, .int j, .int c] => if ∃ n, RgC i j c n then .ok ⟨intL i c (Builtin.Range.rangeSize i j c).toNat, []⟩ s1 else .no
  | _ => .no
def enumL : List PV → Nat → List PV
  | [], _ => []
  | x :: r, i => .tup [.int (i : Nat), x] :: enumL r (i + 1)
def enumI (f : FA) : FI := fun e st => (f e st).bind fun xs s1 => match xs with
  | [v] => match lstAt s1 v with
    | some ys => .ok ⟨enumL ys 0, gdOf v s1⟩ s1
    | none => .no
  | _ => .no
def zipL : List PV → List PV → List PV
  | x :: r, y :: q => .tup [x, y] :: zipL r q
  | _, _ => []
def zipI (f : FA) : FI := fun e st => (f e st).bind fun xs s1 => match xs with
  | [.tup ys, .tup zs] => .ok ⟨zipL ys zs, []⟩ s1
  | [v, w] => match lstAt s1 v, lstAt s1 w with
    | some ys, some zs => .ok ⟨zipL ys zs, gdOf v s1 ++ gdOf w s1⟩ s1
    | _, _ => .no
  | _ => .no
def revI (f : FE) : FI := fun e st => (f e st).bind fun v s1 => match seqAt s1 v with
  | some xs => .ok ⟨xs.reverse, gdOf v s1⟩ s1
  | none => .no
def strI (f : FE) : FI := fun e st => (f e st).bind fun v s1 => match v with
  | .str x => .ok ⟨x.cps.toList.map fun c => .str ⟨#[c]⟩, []⟩ s1
  | _ => .no
section
variable {X : Cx} {W : WX} {ca : String → Addr} {tg : Expr}
/-- a list stays while its guard holds -/
theorem lst_stay {K : PySem.W.Frag} {H H' : Hp} {m m' : List Addr} {st st' : Store} {v : PV} {a : Addr} {xs : List PV} (s : SR K ca H m st) (r : VR K ca H m v (.ref a)) (e : lstAt st v = some xs) (p : m <+: m') (k : Keep K H H') (s' : SR K ca H' m' st') (g : GdOk (gdOf v st) st') :
    ∃ vs, SqL K H' a vs ∧ VRs K ca H' m' xs vs := by
  have r' := r.mono p k
  have e' : lstAt st' v = some xs := by
    cases v with
    | frz ys => exact e
    | ref n =>
      simp only [lstAt] at e ⊢
      cases q : st[n]? with
      | none => rw [q] at e; cases e
      | some o =>
        rw [q] at e
        have := g (n, o) (by simp only [gdOf, q]; exact List.mem_singleton.mpr rfl)
        rw [this]
        exact e
    | _ => cases e
  obtain ⟨b, vs, e1, e2, e3⟩ := lst_ok s' r' e'
  cases e1
  exact ⟨vs, e2, e3⟩
theorem seq_stay {K : PySem.W.Frag} {H H' : Hp} {m m' : List Addr} {st st' : Store} {v : PV} {a : Addr} {xs : List PV} (s : SR K ca H m st) (r : VR K ca H m v (.ref a)) (e : seqAt st v = some xs) (p : m <+: m') (k : Keep K H H') (s' : SR K ca H' m' st') (g : GdOk (gdOf v st) st') :
    (∃ ys, v = .tup ys ∧ ∃ vs, SqT K H' a vs ∧ VRs K ca H' m' xs vs) ∨ (lstAt st v = some xs ∧ ∃ vs, SqL K H' a vs ∧ VRs K ca H' m' xs vs) := by
  cases v with
  | tup ys =>
    simp only [seqAt, Option.some.injEq] at e
    subst e
    cases r with
    | tup h rr => exact .inl ⟨ys, rfl, _, k.t _ _ h, rr.mono p k⟩
  | frz ys => exact .inr ⟨e, lst_stay s r e p k s' g⟩
  | ref n => exact .inr ⟨e, lst_stay s r e p k s' g⟩
  | _ => cases e
theorem itr_list {K : PySem.W.Frag} {H : Hp} {m : List Addr} {st : Store} {v : PV} {a : Addr} {xs : List PV} (s : SR K ca H m st) (r : VR K ca H m v (.ref a)) (e : lstAt st v = some xs) : ItR K ca H m ⟨xs, gdOf v st⟩ (Itl K a) := by
  intro i m' H' st' p k s' g
  obtain ⟨vs, h1, h2⟩ := lst_stay s r e p k s' g
  refine ⟨fun x hx => ?_, fun hi => ⟨vs, h1, by rw [← h2.length]; exact hi⟩⟩
  obtain ⟨w, e1, e2⟩ := h2.get hx
  refine ⟨⟨vs, w, h1, e1⟩, fun y H'' ⟨eH, hy⟩ => ?_⟩
  subst eH
  have := (hy vs h1).symm.trans e1
  cases this
  exact ⟨Keep.refl, s', e2⟩
theorem itr_tup {K : PySem.W.Frag} {H : Hp} {m : List Addr} {a : Addr} {xs : List PV} (r : VR K ca H m (.tup xs) (.ref a)) (gd : List (Nat × PO)) : ItR K ca H m ⟨xs, gd⟩ (Itt K a) := by
  intro i m' H' st' p k s' g
  cases r with
  | tup h rr =>
    rename_i vs
    have h1 := k.t _ _ h
    have h2 := rr.mono p k
    refine ⟨fun x hx => ?_, fun hi => ⟨vs, h1, by rw [← h2.length]; exact hi⟩⟩
    obtain ⟨w, e1, e2⟩ := h2.get hx
    refine ⟨⟨vs, w, h1, e1⟩, fun y H'' ⟨eH, hy⟩ => ?_⟩
    subst eH
    have := (hy vs h1).symm.trans e1
    cases this
    exact ⟨Keep.refl, s', e2⟩
theorem pi_seq {l : Expr} {tl : TE} (hl : PE X l tl) : PI X tg l (fun σ H R => tl σ H fun x H1 => ∃ a, x = .ref a ∧ (((∃ xs, SqL X.K H1 a xs) ∧ R (Itl X.K a) H1) ∨ ((∃ xs, SqT X.K H1 a xs) ∧ R (Itt X.K a) H1))) := by
  refine ⟨fun pins s σ H R I h => ?_⟩
  refine thn (hl.run pins s σ H _ I h) fun v s1 ⟨x, H1, I1, r1, q1⟩ => ?_
  obtain ⟨a, e, ⟨⟨xs, hq⟩, q⟩ | ⟨⟨xs, hq⟩, q⟩⟩ := q1
  · subst e
    cases r1
    obtain ⟨its, rv, p, hz⟩ := I1.list hq
    refine wpAny_pyIter_list p.isList ?_
    refine ⟨s1.heap.objs.size, [s1.heap.objs.size], _, _, H1, rfl, I1.kept (t' := s1.toks) fun b o e => Heap.get?_push_of_some _ e, turn_list a _, ⟨_, Heap.get?_push_size _ rfl, rfl, rfl⟩, fun b hb => ?_, q⟩
    have e : b = s1.heap.objs.size := by simpa using hb
    subst e
    exact I1.fpOk (Nat.le_refl _) (I1.hok.fresh (Nat.le_refl _))
  · subst e
    cases r1
    obtain ⟨its, rv, p, hz⟩ := I1.tuple hq
    refine wpAny_pyIter_tuple (show s1.heap.IsTuple a its.toArray from p) ?_
    refine ⟨s1.heap.objs.size, [s1.heap.objs.size], _, _, H1, rfl, I1.kept (t' := s1.toks) fun b o e => Heap.get?_push_of_some _ e, turn_tuple a _, ⟨_, Heap.get?_push_size _ rfl, rfl, rfl⟩, fun b hb => ?_, q⟩
    have e : b = s1.heap.objs.size := by simpa using hb
    subst e
    exact I1.fpOk (Nat.le_refl _) (I1.hok.fresh (Nat.le_refl _))
theorem ji_seq {l : Expr} {f : FE} (hl : JE X W ca l f) : JI X W ca tg l (seqI f) := by
  obtain ⟨t, p, r⟩ := hl.ex
  refine ⟨_, pi_seq p, fun σ H m env st Q s e h => ?_⟩
  refine r σ H m env st _ s e (Post.bind h fun x st1 m1 x' H1 p1 k1 s1 r1 h1 => ?_)
  split at h1
  · rename_i xs he
    obtain ⟨a, vs, rfl, hq, r2⟩ := seq_ok s1 r1 he
    refine ⟨a, rfl, ?_⟩
    cases x with
    | tup ys =>
      simp only [seqAt, Option.some.injEq] at he
      subst he
      cases r1 with
      | tup hh rr => exact .inr ⟨⟨_, hh⟩, h1 m1 _ H1 (List.prefix_refl _) Keep.refl s1 (itr_tup (.tup hh rr) _)⟩
    | frz ys =>
      obtain ⟨b, ws, e1, e2, e3⟩ := lst_ok s1 r1 he
      cases e1
      exact .inl ⟨⟨_, e2⟩, h1 m1 _ H1 (List.prefix_refl _) Keep.refl s1 (itr_list s1 r1 he)⟩
    | ref n =>
      obtain ⟨b, ws, e1, e2, e3⟩ := lst_ok s1 r1 he
      cases e1
      exact .inl ⟨⟨_, e2⟩, h1 m1 _ H1 (List.prefix_refl _) Keep.refl s1 (itr_list s1 r1 he)⟩
    | _ => cases he
  · exact h1.elim
theorem intL_get {lo c : Int} {n i : Nat} : (intL lo c n)[i]? = if i < n then some (.int (lo + (i : Nat) * c)) else none := by
  unfold intL
  rw [List.getElem?_map]
  by_cases h : i < n
  · rw [List.getElem?_range h, if_pos h]; rfl
  · rw [if_neg h, List.getElem?_eq_none (by simpa using h)]; rfl
theorem intL_len {lo c : Int} {n : Nat} : (intL lo c n).length = n := by unfold intL; rw [List.length_map, List.length_range]
theorem itr_rng {K : PySem.W.Frag} {H : Hp} {m : List Addr} {lo : Int} {n : Nat} : ItR K ca H m ⟨intL lo 1 n, []⟩ (Itr lo n) := by
  intro i m' H' st' p k s' g
  refine ⟨fun x hx => ?_, fun hi => by rw [intL_len] at hi; exact hi⟩
  rw [intL_get] at hx
  split at hx
  · rename_i hi
    cases hx
    refine ⟨hi, fun y H'' ⟨eH, hy⟩ => ?_⟩
    subst eH hy
    rw [Int.mul_one]
    exact ⟨Keep.refl, s', .int _⟩
  · cases hx
theorem itr_rngc {K : PySem.W.Frag} {H : Hp} {m : List Addr} {lo c : Int} {n : Nat} : ItR K ca H m ⟨intL lo c n, []⟩ (Itc lo c n) := by
  intro i m' H' st' p k s' g
  refine ⟨fun x hx => ?_, fun hi => by rw [intL_len] at hi; exact hi⟩
  rw [intL_get] at hx
  split at hx
  · rename_i hi
    cases hx
    refine ⟨hi, fun y H'' ⟨eH, hy⟩ => ?_⟩
    subst eH hy
    exact ⟨Keep.refl, s', .int _⟩
  · cases hx
theorem vrs3 {K : PySem.W.Frag} {H : Hp} {m : List Addr} {x y z : PV} {vs : List V} (r : VRs K ca H m [x, y, z] vs) : ∃ v w u, vs = [v, w, u] ∧ VR K ca H m x v ∧ VR K ca H m y w ∧ VR K ca H m z u := by
  cases r with
  | cons h r => cases r with
    | cons h2 r => cases r with
      | cons h3 r => cases r; exact ⟨_, _, _, rfl, h, h2, h3⟩
theorem ji_rng1 {a : Expr} {fa : FA} {p pos : Pos} (hm : X.mg "range" = none) (ha : JA X W ca [a] fa) (hg : Gl X "range" := by rfl) (hs : starEach [a] X.env = [(false, eval a X.env)] := by rfl) : JI X W ca tg (.Call (.Name "range" p) [a] [] pos) (rng1I fa) := by
  obtain ⟨t, pa, r⟩ := ha.ex
  refine ⟨_, pi_range1 hg hm pa hs, fun σ H m env st Q s e h => ?_⟩
  refine r σ H m env st _ s e (Post.bind h fun x st1 m1 x' H1 p1 k1 s1 r1 h1 => ?_)
  split at h1
  · obtain ⟨v, rfl, q⟩ := vrs1 r1
    cases q
    split at h1
    · rename_i hz
      exact ⟨_, rfl, hz.1, hz.2, h1 m1 _ H1 (List.prefix_refl _) Keep.refl s1 itr_rng⟩
    · exact h1.elim
  · exact h1.elim
theorem ji_rng2 {a b : Expr} {fa : FA} {p pos : Pos} (hm : X.mg "range" = none) (ha : JA X W ca [a, b] fa) (hg : Gl X "range" := by rfl) (hs : starEach [a, b] X.env = [(false, eval a X.env), (false, eval b X.env)] := by rfl) (hs2 : starEach [b] X.env = [(false, eval b X.env)] := by rfl) : JI X W ca tg (.Call (.Name "range" p) [a, b] [] pos) (rng2I fa) := by
  obtain ⟨t, pa, r⟩ := ha.ex
  refine ⟨_, pi_range2 hg hm pa hs hs2, fun σ H m env st Q s e h => ?_⟩
  refine r σ H m env st _ s e (Post.bind h fun x st1 m1 x' H1 p1 k1 s1 r1 h1 => ?_)
  split at h1
  · obtain ⟨v, w, rfl, q, q2⟩ := vrs2 r1
    cases q
    cases q2
    split at h1
    · rename_i hz
      exact ⟨_, _, rfl, hz, h1 m1 _ H1 (List.prefix_refl _) Keep.refl s1 itr_rng⟩
    · exact h1.elim
  · exact h1.elim
theorem ji_rng3 {a b c : Expr} {fa : FA} {p pos : Pos} (hm : X.mg "range" = none) (ha : JA X W ca [a, b, c] fa) (hg : Gl X "range" := by rfl) (hs : starEach [a, b, c] X.env = (false, eval a X.env) :: starEach [b, c] X.env := by rfl) (hpl : (backTo pos (starEach [b, c] X.env)).any (·.1) = false := by rfl) : JI X W ca tg (.Call (.Name "range" p) [a, b, c] [] pos) (rng3I fa) := by
  obtain ⟨t, pa, r⟩ := ha.ex
  refine ⟨_, pi_range3 hg hm pa hs hpl, fun σ H m env st Q s e h => ?_⟩
  refine r σ H m env st _ s e (Post.bind h fun x st1 m1 x' H1 p1 k1 s1 r1 h1 => ?_)
  split at h1
  · obtain ⟨v, w, u, rfl, q, q2, q3⟩ := vrs3 r1
    cases q
    cases q2
    cases q3
    split at h1
    · rename_i hz
      obtain ⟨n, hn⟩ := hz
      have e1 := hn.2.2.2
      rw [e1, Int.toNat_natCast] at h1
      exact ⟨_, _, _, n, rfl, hn, h1 m1 _ H1 (List.prefix_refl _) Keep.refl s1 itr_rngc⟩
    · exact h1.elim
  · exact h1.elim
theorem enumL_get : ∀ {xs : List PV} {k i : Nat}, (enumL xs k)[i]? = (xs[i]?).map fun x => .tup [.int ((k + i : Nat) : Int), x]
  | [], _, _ => by simp [enumL]
  | x :: r, k, 0 => by simp [enumL]
  | x :: r, k, i + 1 => by
    rw [enumL, List.getElem?_cons_succ, List.getElem?_cons_succ, enumL_get (xs := r)]
    rw [show k + 1 + i = k + (i + 1) by omega]
theorem enumL_len : ∀ {xs : List PV} {k : Nat}, (enumL xs k).length = xs.length
  | [], _ => rfl
  | x :: r, k => by rw [enumL, List.length_cons, List.length_cons, enumL_len]
theorem itr_enum {K : PySem.W.Frag} {H : Hp} {m : List Addr} {st : Store} {v : PV} {a : Addr} {xs : List PV} (s : SR K ca H m st) (r : VR K ca H m v (.ref a)) (e : lstAt st v = some xs) : ItR K ca H m ⟨enumL xs 0, gdOf v st⟩ (Ite K a) := by
  intro i m' H' st' p k s' g
  obtain ⟨vs, h1, h2⟩ := lst_stay s r e p k s' g
  refine ⟨fun x hx => ?_, fun hi => ⟨vs, h1, by rw [← h2.length]; rw [enumL_len] at hi; exact hi⟩⟩
  rw [enumL_get] at hx
  obtain ⟨z, hz, rfl⟩ := Option.map_eq_some_iff.mp hx
  obtain ⟨w, e1, e2⟩ := h2.get hz
  refine ⟨⟨vs, w, h1, e1⟩, fun y H'' ⟨T, u, eT, hT, eH, hy⟩ => ?_⟩
  subst eT eH
  have := (hy vs h1).symm.trans e1
  cases this
  obtain ⟨q1, q2, q3⟩ := upd_t s' hT (xs := [.int (i : Nat), z]) (vs := [.int (i : Nat), w]) (.cons (.int _) (.cons e2 .nil))
  rw [Nat.zero_add]
  exact ⟨q1, q2, q3⟩
theorem ji_enum {a : Expr} {fa : FA} {p pos tpos : Pos} {elts : List Expr} {kk : Nat} (hm : X.mg "enumerate" = none) (ha : JA X W ca [a] fa) (hg : Gl X "enumerate" := by rfl) (hs : starEach [a] X.env = [(false, eval a X.env)] := by rfl) : JI X W ca (.Tuple elts kk tpos) (.Call (.Name "enumerate" p) [a] [] pos) (enumI fa) := by
  obtain ⟨t, pa, r⟩ := ha.ex
  refine ⟨_, pi_enum hg hm pa hs, fun σ H m env st Q s e h => ?_⟩
  refine r σ H m env st _ s e (Post.bind h fun x st1 m1 x' H1 p1 k1 s1 r1 h1 => ?_)
  split at h1
  · obtain ⟨v, rfl, q⟩ := vrs1 r1
    split at h1
    · rename_i ys he
      obtain ⟨a, vs, rfl, hq, r2⟩ := lst_ok s1 q he
      exact ⟨a, vs, rfl, hq, h1 m1 _ H1 (List.prefix_refl _) Keep.refl s1 (itr_enum s1 q he)⟩
    · exact h1.elim
  · exact h1.elim
theorem zipL_get : ∀ {xs ys : List PV} {i : Nat} {z : PV}, (zipL xs ys)[i]? = some z → ∃ x y, xs[i]? = some x ∧ ys[i]? = some y ∧ z = .tup [x, y]
  | [], ys, _, _, h => by simp [zipL] at h
  | _ :: _, [], _, _, h => by simp [zipL] at h
  | x :: r, y :: q, 0, z, h => by simp [zipL] at h; exact ⟨x, y, rfl, rfl, h.symm⟩
  | x :: r, y :: q, i + 1, z, h => by
    rw [zipL, List.getElem?_cons_succ] at h
    obtain ⟨a, b, h1, h2, h3⟩ := zipL_get h
    exact ⟨a, b, by simpa using h1, by simpa using h2, h3⟩
theorem zipL_len : ∀ {xs ys : List PV}, (zipL xs ys).length = min xs.length ys.length
  | [], ys => by simp [zipL]
  | _ :: _, [] => by simp [zipL]
  | x :: r, y :: q => by rw [zipL, List.length_cons, List.length_cons, List.length_cons, zipL_len]; omega
theorem ji_zip {a b : Expr} {fa : FA} {p pos tpos : Pos} {elts : List Expr} {kk : Nat} (hm : X.mg "zip" = none) (ha : JA X W ca [a, b] fa) (hg : Gl X "zip" := by rfl)
    (hz : ∀ {ta : TA}, PA X [a, b] ta → PI X (.Tuple elts kk tpos) (.Call (.Name "zip" p) [a, b] [] pos) (RZ.iZipA X.K ta)) : JI X W ca (.Tuple elts kk tpos) (.Call (.Name "zip" p) [a, b] [] pos) (zipI fa) := by
  obtain ⟨t, pa, r⟩ := ha.ex
  refine ⟨_, hz pa, fun σ H m env st Q s e h => ?_⟩
  refine r σ H m env st _ s e (Post.bind h fun x st1 m1 x' H1 p1 k1 s1 r1 h1 => ?_)
  split at h1
  · obtain ⟨v, w, rfl, q1, q2⟩ := vrs2 r1
    cases q1 with
    | tup hs1 rr1 => cases q2 with
      | tup hs2 rr2 =>
        refine ⟨_, _, _, _, rfl, .inr ⟨hs1, hs2, h1 m1 _ H1 (List.prefix_refl _) Keep.refl s1 fun i m' H' st' p k s' g => ?_⟩⟩
        have g1 := k.t _ _ hs1
        have g2 := k.t _ _ hs2
        have t1 := rr1.mono p k
        have t2 := rr2.mono p k
        refine ⟨fun z hz => ?_, fun hi => ⟨_, _, g1, g2, ?_⟩⟩
        · obtain ⟨x, y, e1, e2, rfl⟩ := zipL_get hz
          obtain ⟨x', a1, a2⟩ := t1.get e1
          obtain ⟨y', b1, b2⟩ := t2.get e2
          refine ⟨⟨_, _, x', y', g1, g2, a1, b1⟩, fun z H'' ⟨T, u, u', eT, hT, eH, hy1, hy2⟩ => ?_⟩
          subst eT eH
          have i1 := (hy1 _ g1).symm.trans a1
          have i2 := (hy2 _ g2).symm.trans b1
          cases i1
          cases i2
          exact upd_t s' hT (.cons a2 (.cons b2 .nil))
        · simp only [zipL_len] at hi
          rw [← t1.length, ← t2.length]
          omega
  · obtain ⟨v, w, rfl, q1, q2⟩ := vrs2 r1
    split at h1
    · rename_i _ _ ys zs he1 he2
      obtain ⟨a1, vs1, rfl, hq1, rr1⟩ := lst_ok s1 q1 he1
      obtain ⟨a2, vs2, rfl, hq2, rr2⟩ := lst_ok s1 q2 he2
      refine ⟨_, _, _, _, rfl, .inl ⟨hq1, hq2, h1 m1 _ H1 (List.prefix_refl _) Keep.refl s1 fun i m' H' st' p k s' g => ?_⟩⟩
      obtain ⟨ws1, g1, t1⟩ := lst_stay s1 q1 he1 p k s' fun z hz => g z (List.mem_append_left _ hz)
      obtain ⟨ws2, g2, t2⟩ := lst_stay s1 q2 he2 p k s' fun z hz => g z (List.mem_append_right _ hz)
      refine ⟨fun z hz => ?_, fun hi => ⟨_, _, g1, g2, ?_⟩⟩
      · obtain ⟨x, y, e1, e2, rfl⟩ := zipL_get hz
        obtain ⟨x', a1, a2⟩ := t1.get e1
        obtain ⟨y', b1, b2⟩ := t2.get e2
        refine ⟨⟨_, _, x', y', g1, g2, a1, b1⟩, fun z H'' ⟨T, u, u', eT, hT, eH, hy1, hy2⟩ => ?_⟩
        subst eT eH
        have i1 := (hy1 _ g1).symm.trans a1
        have i2 := (hy2 _ g2).symm.trans b1
        cases i1
        cases i2
        exact upd_t s' hT (.cons a2 (.cons b2 .nil))
      · simp only [zipL_len] at hi
        rw [← t1.length, ← t2.length]
        omega
    · exact h1.elim
  · exact h1.elim
theorem rev_get {α : Type} {xs : List α} {i : Nat} {x : α} (h : xs.reverse[i]? = some x) : i < xs.length ∧ xs[xs.length - 1 - i]? = some x := by
  have hi : i < xs.length := by
    have := (List.getElem?_eq_some_iff.mp h).1
    rwa [List.length_reverse] at this
  rw [List.getElem?_reverse hi] at h
  exact ⟨hi, h⟩
theorem ji_rev {l : Expr} {f : FE} {p pos : Pos} (hm : X.mg "reversed" = none) (hl : JE X W ca l f) (hg : Gl X "reversed" := by rfl) (hs : starEach [l] X.env = (false, eval l X.env) :: starEach [] X.env := by rfl) : JI X W ca tg (.Call (.Name "reversed" p) [l] [] pos) (revI f) := by
  obtain ⟨t, pl, r⟩ := hl.ex
  refine ⟨_, RT.pi_revA hg hm pl hs, fun σ H m env st Q s e h => ?_⟩
  refine r σ H m env st _ s e (Post.bind h fun x st1 m1 x' H1 p1 k1 s1 r1 h1 => ?_)
  split at h1
  · rename_i xs he
    have lstc : ∀ {v : PV}, VR X.K ca H1 m1 v x' → lstAt st1 v = some xs → Post X.K ca (ItR X.K ca) (EW W ca σ) m1 H1 Q (.ok ⟨xs.reverse, gdOf v st1⟩ st1) → ∃ (a : Addr) (ws : List V), x' = .ref a ∧ ((SqL X.K H1 a ws ∧ Q (Itv X.K a ws.length) H1) ∨ (SqT X.K H1 a ws ∧ Q (RT.ItvT X.K a ws.length) H1)) := by
      intro v r1 he h1
      obtain ⟨a, vs, rfl, hq, r2⟩ := lst_ok s1 r1 he
      refine ⟨a, vs, rfl, .inl ⟨hq, h1 m1 _ H1 (List.prefix_refl _) Keep.refl s1 fun i m' H' st' p k s' g => ?_⟩⟩
      obtain ⟨ws, g1, t1⟩ := lst_stay s1 r1 he p k s' g
      refine ⟨fun z hz => ?_, fun hi => by rw [List.length_reverse] at hi; rw [← r2.length]; exact hi⟩
      obtain ⟨h3, h4⟩ := rev_get hz
      rw [r2.length] at h4
      obtain ⟨w, e1, e2⟩ := t1.get h4
      refine ⟨⟨by rw [← r2.length]; exact h3, ws, w, g1, e1⟩, fun y H'' ⟨eH, hy⟩ => ?_⟩
      subst eH
      have := (hy ws g1).symm.trans e1
      cases this
      exact ⟨Keep.refl, s', e2⟩
    cases x with
    | tup ys =>
      simp only [seqAt, Option.some.injEq] at he
      subst he
      cases r1 with
      | tup hh rr =>
        rename_i a vs
        refine ⟨a, vs, rfl, .inr ⟨hh, h1 m1 _ H1 (List.prefix_refl _) Keep.refl s1 fun i m' H' st' p k s' g => ?_⟩⟩
        have g1 := k.t _ _ hh
        have t1 := rr.mono p k
        refine ⟨fun z hz => ?_, fun hi => by rw [List.length_reverse] at hi; rw [← rr.length]; exact hi⟩
        obtain ⟨h3, h4⟩ := rev_get hz
        rw [rr.length] at h4
        obtain ⟨w, e1, e2⟩ := t1.get h4
        refine ⟨⟨by rw [← rr.length]; exact h3, vs, w, g1, e1⟩, fun y H'' ⟨eH, hy⟩ => ?_⟩
        subst eH
        have := (hy vs g1).symm.trans e1
        cases this
        exact ⟨Keep.refl, s', e2⟩
    | frz ys => exact lstc r1 he h1
    | ref n => exact lstc r1 he h1
    | _ => cases he
  · exact h1.elim
theorem ji_str {l : Expr} {f : FE} (hl : JE X W ca l f) : JI X W ca tg l (strI f) := by
  obtain ⟨t, p, r⟩ := hl.ex
  refine ⟨_, pi_str p, fun σ H m env st Q s e h => ?_⟩
  refine r σ H m env st _ s e (Post.bind h fun x st1 m1 x' H1 p1 k1 s1 r1 h1 => ?_)
  split at h1
  · cases r1
    rename_i x
    refine ⟨x, rfl, h1 m1 _ H1 (List.prefix_refl _) Keep.refl s1 fun i m' H' st' p k s' g => ?_⟩
    refine ⟨fun z hz => ?_, fun hi => (by simpa using hi : x.cps.size ≤ i)⟩
    rw [List.getElem?_map] at hz
    obtain ⟨c, hc, rfl⟩ := Option.map_eq_some_iff.mp hz
    have hc' : x.cps[i]? = some c := by simpa using hc
    refine ⟨(Array.getElem?_eq_some_iff.mp hc').1, fun y H'' ⟨eH, c', h1, h2⟩ => ?_⟩
    subst eH h2
    rw [hc'] at h1
    cases h1
    exact ⟨Keep.refl, s', .str _⟩
  · exact h1.elim
end
end
end FL
end
section
set_option linter.all false
set_option maxRecDepth 100000
namespace FL
open PySem PySem.Spec PyProof.Rows L2
noncomputable section
section
variable {X : Cx} {W : WX} {ca : String → Addr}
theorem je_globE {x : Str} {v : PV} {pos : Pos} (h : ∃ u w, X.mg x = some u ∧ RelV w u ∧ ∀ ca H m, VR X.K ca H m v w) (hg : Gl X x) (hd : (x == ("__debug__" : Str)) = false := by decide) : JE X W ca (.Name x pos) (cstF v) := by
  obtain ⟨u, w, h1, h2, h3⟩ := h
  exact je_glob hg h1 h2 (h3 ca) hd
theorem je_globC {x : Str} {n : String} {a : Addr} {pos : Pos} (hm : X.mg x = some (.ref a)) (hc : ca n = a) (hg : Gl X x) (hd : (x == ("__debug__" : Str)) = false := by decide) : JE X W ca (.Name x pos) (cstF (.cls n)) :=
  je_glob (w := .ref a) hg hm rfl (fun H m => by rw [← hc]; exact .cls n) hd
theorem jt_ch {op op' : CmpOp} {a b c : Expr} {pos : Pos} {fa fb fc : FE} {g g' : PV → PV → Store → O PV} (ho : OpF X ca (compareOp op) g) (ho' : OpF X ca (compareOp op') g') (ha : JE X W ca a fa) (hb : JE X W ca b fb) (hc : JE X W ca c fc)
    (hm : lastMarks [op, op'] [b, c] = false := by with_unfolding_all rfl) : JT X W ca (.Compare a [op, op'] [b, c] pos) (isB (chF g g' fa fb fc)) := by
  obtain ⟨ta, pa, ra⟩ := ha.ex
  obtain ⟨tb, pb, rb⟩ := hb.ex
  obtain ⟨tc, pc, rc⟩ := hc.ex
  obtain ⟨r, po, ro⟩ := ho
  obtain ⟨r', po', ro'⟩ := ho'
  refine ⟨_, pt_chain po po' pa pb pc hm, fun σ H m env st Q s e h => ?_⟩
  show tChain r r' ta tb tc σ H (fun x H' => ∃ k, x = .bl k ∧ Q k H')
  have h' : Post X.K ca rB (EW W ca σ) m H Q ((fa env st).bind fun x s1 => (fb env s1).bind fun y s2 => (R.of (g x y s2)).bind fun z s3 => (asB z s3).bind fun k s4 =>
      (if k = true then (fc env s4).bind fun u s5 => R.of (g' y u s5) else .ok (.bl false) s4).bind asB) := by
    unfold isB chF at h
    cases q : fa env st with
    | ok x s1 =>
      rw [q] at h
      simp only [R.bind] at h ⊢
      cases q2 : fb env s1 with
      | ok y s2 =>
        rw [q2] at h
        simp only at h ⊢
        cases q3 : R.of (g x y s2) with
        | ok z s3 =>
          rw [q3] at h
          simp only at h ⊢
          cases q4 : asB z s3 <;> rw [q4] at h <;> exact h
        | er z s3 => rw [q3] at h; exact h
        | no => rw [q3] at h; exact h
      | er y s2 => rw [q2] at h; exact h
      | no => rw [q2] at h; exact h
    | er x s1 => rw [q] at h; exact h
    | no => rw [q] at h; exact h
  refine ra σ H m env st _ s e (Post.bind h' fun x st1 m1 x' H1 p1 k1 s1 r1 h1 => ?_)
  refine rb σ H1 m1 env st1 _ s1 (e.mono p1 k1) (Post.bind h1 fun y st2 m2 y' H2 p2 k2 s2 r2 h2 => ?_)
  refine ro H2 m2 st2 x y x' y' _ s2 (r1.mono p2 k2) r2 (Post.of (Post.bind h2 fun z st3 m3 z' H3 p3 k3 s3 r3 h3 => ?_))
  have h4 := Post.bind (rel := rB) (Q1 := fun k H4 => H4 = H3 → if k = true then tc σ H4 (fun u H5 => r' y' u H5 (fun x H' => ∃ k, x = .bl k ∧ Q k H')) else ∃ k, V.bl false = .bl k ∧ Q k H4) h3 fun k st4 m4 k' H4 p4 k4 s4 r4 h4 e4 => by
    subst e4
    have rk : k = k' := r4
    subst rk
    cases k with
    | true =>
      rw [if_pos rfl] at h4 ⊢
      have h5 : Post X.K ca rB (EW W ca σ) m4 H4 Q ((fc env st4).bind fun u s5 => (R.of (g' y u s5)).bind asB) := by
        cases q : fc env st4 <;> rw [q] at h4 <;> exact h4
      refine rc σ H4 m4 env st4 _ s4 (e.mono (((p1.trans p2).trans p3).trans p4) (((k1.trans k2).trans k3).trans k4)) (Post.bind h5 fun u st5 m5 u' H5 p5 k5 s5 r5 h5 => ?_)
      refine ro' H5 m5 st5 y u y' u' _ s5 (r2.mono ((p3.trans p4).trans p5) ((k3.trans k4).trans k5)) r5 (Post.of (Post.bind h5 fun z st6 m6 z' H6 p6 k6 s6 r6 h6 => ?_))
      exact asB_post h6 s6 r6
    | false =>
      rw [if_neg Bool.false_ne_true] at h4 ⊢
      exact ⟨false, rfl, h4.ok s4 rfl⟩
  obtain ⟨k, ek, q⟩ := asB_post h4 s3 r3
  subst ek
  exact ⟨k, rfl, q rfl⟩
/-! ## stores into a list -/
def setLV (o i v : PV) (st : Store) : Option Store := match o, i with
  | .ref n, .int k => match st[n]? with
    | some (.lst xs) => (ixN xs.length k).map fun j => st.set n (.lst (xs.set j v))
    | _ => none
  | _, _ => none
theorem sf_list : SetF X ca setLV := by
  refine ⟨_, set_list, fun H m st o i v o' i' v' st' Q s ro ri rv e q => ?_⟩
  unfold setLV at e
  split at e
  · cases ri
    cases ro with
    | ref hn =>
      split at e
      · rename_i xs hx
        obtain ⟨vs, e1, r2⟩ := getL s hx hn
        obtain ⟨j, hj, rfl⟩ := Option.map_eq_some_iff.mp e
        have kk := Keep.upd (K := X.K) (o := .lst (vs.set j v')) e1 (fun _ z => nomatch z) (fun _ _ z => nomatch z)
        refine ⟨_, vs, _, j, rfl, rfl, e1, by rw [← r2.length]; exact hj, q _ kk (s.set hn e1 (fun _ z => nomatch z) (fun _ _ z => nomatch z) ⟨_, upd_same, (r2.set rv j).mono (List.prefix_refl _) kk⟩)⟩
      · cases e
  · cases e
end
/-! ## the end -/
section
variable {P : Program} {w : World} {K : PySem.W.Frag} {mg : Str → Option Value} {base : Heap} {ca : String → Addr}
theorem Cal.mono {j k : Nat} {f : Addr} {fd : FuncData} {ps : List Str} {F : Fn} (C : Cal P w K mg base ca j f fd ps F) (h : j ≤ k) : Cal P w K mg base ca k f fd ps F := ⟨C.ok.mono h, C.kp⟩
/-- what the law promises -/
def spTop (K : PySem.W.Frag) : Sp := fun vs H Q _ => ∃ (a : Addr) (ns : List Int), vs = [.ref a] ∧ ns.length ≤ 63 ∧ Only H ∧ SqL K H a (ns.map V.int) ∧ ∀ H', Q (.bl true) H'
theorem top_ok {k : Nat} {f : Addr} {fd : FuncData} {x : Str} {F : Fn} (C : Cal P w K mg base ca k f fd [x] F) (h : ∀ ns : List Int, ns.length ≤ 63 → ∃ st, F [.frz (ns.map PV.int)] [] = .ok (.bl true) st) : FnOk P w K mg base (L2.CX P w) k f fd [x] (spTop K) := by
  refine C.ok.imp fun vs H Q E hh => ?_
  obtain ⟨a, ns, rfl, hl, hO, hS, q⟩ := hh
  obtain ⟨st, e⟩ := h ns hl
  refine ⟨[], [], [.frz (ns.map PV.int)], ⟨rfl, List.nodup_nil, fun n a o z => by cases z⟩, .cons (.frz ?_ (VRs.ints ns)) .nil, rfl, ?_⟩
  · rcases hS with (hS | hS) | hS
    · rcases hO a with z | ⟨o, xs, z⟩
      · rw [z] at hS; cases hS
      · rw [z] at hS; cases hS
    · exact .inl hS
    · exact .inr hS
  · rw [e]
    intro m' b H' _ _ _ r
    cases r
    exact q H'
theorem top_cx (P : Program) (w : World) (H : Hp) (s : Shared) (e : Value) (s' : Shared) (h : L2.CX P w [] H s (fun _ _ _ => False) e s') : False := by
  obtain ⟨_, _, _, _, _, _, _, _, _, _, _, _, z⟩ := h
  exact z.elim
theorem hu65 {A : Around} {k : Nat} (hr : Room k A) : A.units + 65 < cLine := by have := hr.un; omega
theorem hu64 {A : Around} {k : Nat} (hr : Room k A) : A.units + 64 < cLine := by have := hr.un; omega
end
end
end FL
end
section
set_option linter.all false
set_option maxRecDepth 100000
namespace FL
open PySem PySem.Spec PyProof.Rows L2
noncomputable section
/-! ## reasoning about what defs do -/
theorem bind_ok {α β : Type} (a : α) (s : Store) (g : α → Store → R β) : (R.ok a s).bind g = g a s := rfl
theorem toS_ok {α : Type} (a : α) (s : Store) (e : Env) (g : α → Store → RS) : (R.ok a s).toS e g = g a s := rfl
theorem of_some {α : Type} (a : α) (s : Store) : R.of (some (a, s)) = .ok a s := rfl
theorem seqS_nx {f g : FS} {e e1 : Env} {s s1 : Store} (h : f e s = .nx e1 s1) : seqS f g e s = g e1 s1 := by unfold seqS; rw [h]
theorem seqS_rt {f g : FS} {e : Env} {s s1 : Store} {v : PV} (h : f e s = .rt v s1) : seqS f g e s = .rt v s1 := by unfold seqS; rw [h]
theorem seqS_er {f g : FS} {e e1 : Env} {s s1 : Store} {x : Ex} (h : f e s = .er x e1 s1) : seqS f g e s = .er x e1 s1 := by unfold seqS; rw [h]
theorem ifS_t {c : FT} {f g : FS} {e : Env} {s s1 : Store} (h : c e s = .ok true s1) : ifS c f g e s = f e s1 := by unfold ifS; rw [h]; rfl
theorem ifS_f {c : FT} {f g : FS} {e : Env} {s s1 : Store} (h : c e s = .ok false s1) : ifS c f g e s = g e s1 := by unfold ifS; rw [h]; rfl
/-- what was made and is not handed out is forgotten -/
theorem pre_app (st g : Store) : preOk st (st ++ g) := fun k hk => .inl (List.getElem?_append_left hk)
theorem gc_app {v : PV} {st g : Store} (h : refsOk st.length v = true) : gc st v (st ++ g) = .ok v st := by
  unfold gc
  rw [if_pos ⟨by simp, pre_app st g⟩, if_pos h, List.take_left' rfl]
theorem gc_same {v : PV} {st : Store} (h : refsOk st.length v = true) : gc st v st = .ok v st := by
  have := gc_app (g := []) h
  rwa [List.append_nil] at this
/-- a new list of things without references -/
theorem gc_new {st g : Store} {r : Nat} {o : PO} (h : (st ++ g)[r]? = some o) (hr : st.length ≤ r) (ho : objOk st.length o = true) : gc st (.ref r) (st ++ g) = .ok (.ref st.length) (st ++ [o]) := by
  unfold gc
  have n : ¬ refsOk st.length (.ref r) = true := by simp [refsOk]; omega
  rw [if_pos ⟨by simp, pre_app st g⟩, if_neg n]
  simp only [h]
  rw [if_pos ⟨ho, hr⟩, List.take_left' rfl]
theorem gcx_app {x : Ex} {st g : Store} (h : x.val = none) : gcx st x (st ++ g) = .er x st := by
  unfold gcx
  rw [if_pos ⟨by simp, pre_app st g, fun p hp => by rw [h] at hp; cases hp⟩, List.take_left' rfl]
mutual
/-- things without any reference -/
def pureP : PV → Bool
  | .ref _ => false
  | .tup xs => puresP xs
  | .frz xs => puresP xs
  | _ => true
def puresP : List PV → Bool
  | [] => true
  | x :: xs => pureP x && puresP xs
end
mutual
theorem pure_refs (n : Nat) : ∀ {v : PV}, pureP v = true → refsOk n v = true
  | .non, _ => rfl
  | .bl _, _ => rfl
  | .int _, _ => rfl
  | .str _, _ => rfl
  | .ty _, _ => rfl
  | .cls _, _ => rfl
  | .ref _, h => by cases h
  | .tup xs, h => by simp only [refsOk]; exact pures_refs n (by simpa only [pureP] using h)
  | .frz xs, h => by simp only [refsOk]; exact pures_refs n (by simpa only [pureP] using h)
theorem pures_refs (n : Nat) : ∀ {xs : List PV}, puresP xs = true → refsOks n xs = true
  | [], _ => rfl
  | x :: xs, h => by
    simp only [puresP, Bool.and_eq_true] at h
    simp only [refsOks, Bool.and_eq_true]
    exact ⟨pure_refs n h.1, pures_refs n h.2⟩
end
theorem pures_iff {xs : List PV} : puresP xs = true ↔ ∀ x ∈ xs, pureP x = true := by
  induction xs with
  | nil => simp [puresP]
  | cons x xs ih => simp [puresP, ih]
theorem run_rt {n : Nat} {body : FS} {args : List PV} {st g : Store} {v : PV} (h : body (args.map some ++ List.replicate (n - args.length) none) st = .rt v (st ++ g)) (p : pureP v = true) : runFn n body args st = .ok v st := by
  unfold runFn
  rw [h]
  exact gc_app (pure_refs _ p)
theorem run_rt0 {n : Nat} {body : FS} {args : List PV} {st : Store} {v : PV} (h : body (args.map some ++ List.replicate (n - args.length) none) st = .rt v st) (p : pureP v = true) : runFn n body args st = .ok v st := by
  unfold runFn
  rw [h]
  exact gc_same (pure_refs _ p)
theorem run_new {n : Nat} {body : FS} {args : List PV} {st g : Store} {r : Nat} {o : PO} (h : body (args.map some ++ List.replicate (n - args.length) none) st = .rt (.ref r) (st ++ g)) (hr : (st ++ g)[r]? = some o) (hl : st.length ≤ r) (ho : objOk st.length o = true) :
    runFn n body args st = .ok (.ref st.length) (st ++ [o]) := by
  unfold runFn
  rw [h]
  exact gc_new hr hl ho
/-! ### places of the store -/
theorem getS {st g : Store} {i : Nat} : (st ++ g)[st.length + i]? = g[i]? := by rw [List.getElem?_append_right (by omega)]; congr 1; omega
theorem getS0 {st g : Store} : (st ++ g)[st.length]? = g[0]? := getS (i := 0)
theorem setS_app {st g : Store} {i : Nat} {o : PO} : (st ++ g).set (st.length + i) o = st ++ g.set i o := by
  rw [List.set_append_right _ _ (by omega)]
  congr 2
  omega
theorem setS0_app {st g : Store} {o : PO} : (st ++ g).set st.length o = st ++ g.set 0 o := setS_app (i := 0)
theorem lenS {st g : Store} : (st ++ g).length = st.length + g.length := List.length_append
theorem appS {st g k : Store} : (st ++ g) ++ k = st ++ (g ++ k) := List.append_assoc ..
theorem appS0 {st k : Store} : st ++ k = st ++ k := rfl
theorem getOld {st g : Store} {i : Nat} {o : PO} (h : st[i]? = some o) : (st ++ g)[i]? = some o := by
  rw [List.getElem?_append_left (List.getElem?_eq_some_iff.mp h).1]
  exact h
/-! ### walks -/
theorem gd_nil (st : Store) : GdOk [] st := fun p hp => by cases hp
theorem forL_wp {gd : List (Nat × PO)} {g : FG} {b : FS} (Q : RS → Prop) (P : Nat → Env → Store → Prop) : ∀ {xs : List PV} {k : Nat} {e : Env} {st : Store} (h0 : P k e st)
    (hs : ∀ i x e st, xs[i]? = some x → P (k + i) e st → GdOk gd st ∧ ∃ e1, g x e = some e1 ∧ (match b e1 st with
      | .nx e2 s2 => P (k + i + 1) e2 s2
      | .ct e2 s2 => P (k + i + 1) e2 s2
      | .bk e2 s2 => Q (.nx e2 s2)
      | r => Q r))
    (hd : ∀ e st, P (k + xs.length) e st → GdOk gd st ∧ Q (.nx e st)), Q (forL gd g b xs e st)
  | [], k, e, st, h0, hs, hd => by
    obtain ⟨h1, h2⟩ := hd e st h0
    unfold forL
    rw [if_pos h1]
    exact h2
  | x :: r, k, e, st, h0, hs, hd => by
    obtain ⟨h1, e1, h2, h3⟩ := hs 0 x e st rfl h0
    unfold forL
    rw [if_pos h1, h2]
    have next : ∀ {e2 : Env} {s2 : Store}, P (k + 0 + 1) e2 s2 → Q (forL gd g b r e2 s2) := fun {e2 s2} p =>
      forL_wp Q P (k := k + 1) p (fun i y e st hy q => by
        have := hs (i + 1) y e st (by simpa using hy) (by rw [show k + (i + 1) = k + 1 + i by omega]; exact q)
        rwa [show k + (i + 1) + 1 = k + 1 + i + 1 by omega] at this) (fun e st q => hd e st (by rw [List.length_cons, show k + (r.length + 1) = k + 1 + r.length by omega]; exact q))
    simp only
    cases q : b e1 st with
    | nx e2 s2 => rw [q] at h3; exact next h3
    | ct e2 s2 => rw [q] at h3; exact next h3
    | bk e2 s2 => rw [q] at h3; exact h3
    | rt v s2 => rw [q] at h3; exact h3
    | er x e2 s2 => rw [q] at h3; exact h3
    | no => rw [q] at h3; exact h3
/-- a loop that runs to its end -/
theorem forL_inv {gd : List (Nat × PO)} {g : FG} {b : FS} (P : Nat → Env → Store → Prop) {xs : List PV} {e : Env} {st : Store} (h0 : P 0 e st)
    (hs : ∀ i x e st, xs[i]? = some x → P i e st → GdOk gd st ∧ ∃ e1, g x e = some e1 ∧ ∃ e2 s2, b e1 st = .nx e2 s2 ∧ P (i + 1) e2 s2)
    (hd : ∀ e st, P xs.length e st → GdOk gd st) : ∃ e' st', forL gd g b xs e st = .nx e' st' ∧ P xs.length e' st' := by
  refine forL_wp (fun r => ∃ e' st', r = .nx e' st' ∧ P xs.length e' st') P (k := 0) h0 (fun i x e st hx p => ?_) (fun e st p => ?_)
  · rw [Nat.zero_add] at p ⊢
    obtain ⟨h1, e1, h2, e2, s2, h3, h4⟩ := hs i x e st hx p
    refine ⟨h1, e1, h2, ?_⟩
    rw [h3]
    exact h4
  · rw [Nat.zero_add] at p
    exact ⟨hd e st p, e, st, rfl, p⟩
/-- the same, by a row of states -/
theorem forL_row {gd : List (Nat × PO)} {g : FG} {b : FS} (E : Nat → Env) (S : Nat → Store) : ∀ {xs : List PV} {k : Nat},
    (∀ i x, xs[i]? = some x → GdOk gd (S (k + i)) ∧ ∃ e1, g x (E (k + i)) = some e1 ∧ b e1 (S (k + i)) = .nx (E (k + i + 1)) (S (k + i + 1))) → GdOk gd (S (k + xs.length)) →
    forL gd g b xs (E k) (S k) = .nx (E (k + xs.length)) (S (k + xs.length))
  | [], k, _, hd => by
    unfold forL
    rw [if_pos (show GdOk gd (S k) from hd)]
    rfl
  | x :: r, k, hs, hd => by
    obtain ⟨h1, e1, h2, h3⟩ := hs 0 x rfl
    unfold forL
    rw [if_pos (show GdOk gd (S k) from h1), show g x (E k) = some e1 from h2]
    simp only
    rw [show b e1 (S k) = _ from h3]
    simp only
    have := forL_row (xs := r) (k := k + 1) E S (fun i y hy => by
      have := hs (i + 1) y (by simpa using hy)
      rwa [show k + (i + 1) = k + 1 + i by omega] at this) (by rw [show k + 1 + r.length = k + (r.length + 1) by omega]; exact hd)
    rw [List.length_cons, show k + (r.length + 1) = k + 1 + r.length by omega]
    exact this
/-! ### comprehensions -/
theorem lcL_map {α : Type} {gd : List (Nat × PO)} {g : FG} {ft : FT} {fe : FE} {e0 : Env} {s1 : Store} (f : α → PV) (p : α → Bool) (φ : α → PV) (hg : ∀ acc, GdOk gd (s1 ++ [.lst acc])) : ∀ {xs : List α} {acc : List PV},
    (∀ x ∈ xs, ∃ e1, g (f x) e0 = some e1 ∧ ∀ acc, ft e1 (s1 ++ [.lst acc]) = .ok (p x) (s1 ++ [.lst acc]) ∧ (p x = true → fe e1 (s1 ++ [.lst acc]) = .ok (φ x) (s1 ++ [.lst acc]))) → acc.length + xs.length ≤ sizeLine →
    lcL gd g ft fe s1.length e0 (xs.map f) (s1 ++ [.lst acc]) = some (.ref s1.length, s1 ++ [.lst (acc ++ (xs.filter p).map φ)])
  | [], acc, _, _ => by
    rw [List.map_nil]
    unfold lcL
    rw [if_pos (hg acc)]
    simp
  | x :: r, acc, hx, hl => by
    obtain ⟨e1, h1, h2⟩ := hx x List.mem_cons_self
    obtain ⟨h3, h4⟩ := h2 acc
    rw [List.map_cons]
    unfold lcL
    rw [if_pos (hg acc), h1]
    simp only
    rw [h3]
    rw [List.length_cons] at hl
    cases hp : p x with
    | false =>
      simp only
      rw [lcL_map f p φ hg (fun y hy => hx y (List.mem_cons_of_mem _ hy)) (by omega), List.filter_cons, hp]
      rfl
    | true =>
      simp only
      rw [h4 hp]
      simp only
      rw [getS0]
      simp only [List.getElem?_cons_zero]
      rw [if_pos (by omega), setS0_app]
      simp only [List.set_cons_zero]
      rw [lcL_map f p φ hg (fun y hy => hx y (List.mem_cons_of_mem _ hy)) (by rw [List.length_append, List.length_singleton]; omega), List.filter_cons, hp]
      simp [List.append_assoc]
theorem lcF_filter {α : Type} {fi : FI} {own : List Nat} {g : FG} {ft : FT} {fe : FE} {e : Env} {st s1 : Store} {gd : List (Nat × PO)} (as : List α) (f : α → PV) (p : α → Bool) (φ : α → PV) (hi : fi e st = .ok ⟨as.map f, gd⟩ s1) (hg : ∀ acc, GdOk gd (s1 ++ [.lst acc])) (hl : as.length ≤ sizeLine)
    (hx : ∀ x ∈ as, ∃ e1, g (f x) (wipeE e own) = some e1 ∧ ∀ acc, ft e1 (s1 ++ [.lst acc]) = .ok (p x) (s1 ++ [.lst acc]) ∧ (p x = true → fe e1 (s1 ++ [.lst acc]) = .ok (φ x) (s1 ++ [.lst acc]))) :
    lcF fi own g ft fe e st = .ok (.ref s1.length) (s1 ++ [.lst ((as.filter p).map φ)]) := by
  unfold lcF
  rw [hi, bind_ok, lcL_map f p φ hg hx (by rw [List.length_nil]; omega)]
  rfl
theorem lcF_map {α : Type} {fi : FI} {own : List Nat} {g : FG} {fe : FE} {e : Env} {st s1 : Store} {gd : List (Nat × PO)} (as : List α) (f : α → PV) (φ : α → PV) (hi : fi e st = .ok ⟨as.map f, gd⟩ s1) (hg : ∀ acc, GdOk gd (s1 ++ [.lst acc])) (hl : as.length ≤ sizeLine)
    (hx : ∀ x ∈ as, ∃ e1, g (f x) (wipeE e own) = some e1 ∧ ∀ acc, fe e1 (s1 ++ [.lst acc]) = .ok (φ x) (s1 ++ [.lst acc])) :
    lcF fi own g yesT fe e st = .ok (.ref s1.length) (s1 ++ [.lst (as.map φ)]) := by
  rw [lcF_filter as f (fun _ => true) φ hi hg hl fun x h => by
    obtain ⟨e1, h1, h2⟩ := hx x h
    exact ⟨e1, h1, fun acc => ⟨rfl, fun _ => h2 acc⟩⟩]
  rw [List.filter_eq_self.mpr fun _ _ => rfl]
/-! ### while -/
theorem whL_wp {c : FT} {b : FS} (Q : RS → Prop) (P : Env → Store → Prop) (μ : Env → Store → Nat) : ∀ (n : Nat) {e : Env} {st : Store} (h0 : P e st) (hn : μ e st < n)
    (hs : ∀ e st, P e st → ∃ k s1, c e st = .ok k s1 ∧ if k = true then (match b e s1 with
      | .nx e2 s2 => P e2 s2 ∧ μ e2 s2 < μ e st
      | .ct e2 s2 => P e2 s2 ∧ μ e2 s2 < μ e st
      | .bk e2 s2 => Q (.nx e2 s2)
      | r => Q r) else Q (.nx e s1)), Q (whL c b n e st)
  | 0, e, st, h0, hn, hs => absurd hn (Nat.not_lt_zero _)
  | n + 1, e, st, h0, hn, hs => by
    obtain ⟨k, s1, h1, h2⟩ := hs e st h0
    unfold whL
    rw [h1, toS_ok]
    cases k with
    | false => rw [if_neg Bool.false_ne_true] at h2 ⊢; exact h2
    | true =>
      rw [if_pos rfl] at h2 ⊢
      cases q : b e s1 with
      | nx e2 s2 => rw [q] at h2; exact whL_wp Q P μ n h2.1 (by have := h2.2; omega) hs
      | ct e2 s2 => rw [q] at h2; exact whL_wp Q P μ n h2.1 (by have := h2.2; omega) hs
      | bk e2 s2 => rw [q] at h2; exact h2
      | rt v s2 => rw [q] at h2; exact h2
      | er x e2 s2 => rw [q] at h2; exact h2
      | no => rw [q] at h2; exact h2
theorem whS_wp {c : FT} {b : FS} (Q : RS → Prop) (P : Env → Store → Prop) (μ : Env → Store → Nat) {e : Env} {st : Store} (h0 : P e st) (hn : μ e st < 1000000)
    (hs : ∀ e st, P e st → ∃ k s1, c e st = .ok k s1 ∧ if k = true then (match b e s1 with
      | .nx e2 s2 => P e2 s2 ∧ μ e2 s2 < μ e st
      | .ct e2 s2 => P e2 s2 ∧ μ e2 s2 < μ e st
      | .bk e2 s2 => Q (.nx e2 s2)
      | r => Q r) else Q (.nx e s1)) : Q (whS c b e st) := by
  unfold whS
  exact whL_wp Q P μ FUEL h0 (by rw [FUEL_eq]; exact hn) hs
/-! ### sizes -/
theorem log2_lt {n k : Nat} (h : n < 2 ^ (k + 1)) : n.log2 ≤ k := by
  by_cases h0 : n = 0
  · subst h0; simp
  · have := (Nat.log2_lt h0).mpr h
    omega
theorem mulOk_of {i j : Int} (hi : i.natAbs < 2 ^ 250) (hj : j.natAbs < 2 ^ 250) : mulOk i j = true := by
  have h1 := log2_lt (k := 249) hi
  have h2 := log2_lt (k := 249) hj
  exact decide_eq_true (by omega)
theorem sl (n : Nat) (h : n ≤ 16777216) : n ≤ sizeLine := by rw [sizeLine_eq]; exact h
end
end FL
end
section
set_option linter.all false
set_option maxRecDepth 100000
namespace FL
open PySem PySem.Spec PyProof.Rows L2
noncomputable section
/-! ## texts as lists of signs -/
def S (l : List Nat) : Str := ⟨l.toArray⟩
theorem S_cps (l : List Nat) : (S l).cps.toList = l := by simp [S]
theorem S_len (l : List Nat) : (S l).length = l.length := by simp [S, Str.length]
theorem S_of (x : Str) : x = S x.cps.toList := by cases x; simp [S]
theorem S_app (a b : List Nat) : S a ++ S b = S (a ++ b) := by
  show (⟨_⟩ : Str) = _
  simp [S]
theorem S_inj {a b : List Nat} : S a = S b ↔ a = b := ⟨fun h => by have := congrArg (fun x : Str => x.cps.toList) h; simpa [S] using this, fun h => by rw [h]⟩
theorem S_one (c : Nat) : (⟨#[c]⟩ : Str) = S [c] := rfl
theorem S_cut (l : List Nat) (lo hi : Option Int) : cutS (S l) lo hi = S ((l.drop (HT.sIx l.length 0 lo)).take (HT.sIx l.length l.length hi - HT.sIx l.length 0 lo)) := by
  unfold cutS
  rw [S_cps, S_len]
  rfl
theorem sIx_some {n d : Nat} {i : Int} (h : 0 ≤ i) : HT.sIx n d (some i) = min i.toNat n := by
  show (if i < 0 then (i + (n : Int)).toNat else min i.toNat n) = _
  rw [if_neg (by omega)]
theorem foldl_app (x : List Nat) : ∀ (n : Nat) (acc : Array Nat), (List.replicate n x.toArray).foldl (· ++ ·) acc = acc ++ (List.replicate n x).flatten.toArray
  | 0, acc => by simp
  | n + 1, acc => by
    rw [List.replicate_succ, List.foldl_cons, foldl_app x n, List.replicate_succ, List.flatten_cons, Array.append_assoc]
    simp
theorem S_mul (l : List Nat) (n : Int) (h : 0 ≤ n) : Txt.mul (S l) n = S (List.replicate n.toNat l).flatten := by
  unfold Txt.mul
  by_cases h1 : n < 1
  · rw [if_pos h1]
    have : n.toNat = 0 := by omega
    rw [this]
    rfl
  · rw [if_neg h1]
    by_cases h2 : (n == 1 || (S l).length == 0) = true
    · rw [if_pos h2]
      rcases Bool.or_eq_true_iff.mp h2 with h3 | h3
      · have : n = 1 := by simpa using h3
        subst this
        simp
      · have h4 : l = [] := by
          have : (S l).length = 0 := by simpa using h3
          rw [S_len] at this
          exact List.length_eq_zero_iff.mp this
        subst h4
        simp
    · rw [if_neg h2]
      show (⟨_⟩ : Str) = _
      have := foldl_app l n.toNat #[]
      unfold S
      rw [this]
      simp
/-- an item of a list by its place -/
theorem atI_nat' {α : Type} {xs : List α} {i : Int} {x : α} (h0 : 0 ≤ i) (h : xs[i.toNat]? = some x) : atI xs i = some x := by
  have hi : i.toNat < xs.length := (List.getElem?_eq_some_iff.mp h).1
  unfold atI ixN
  rw [if_pos h0, if_pos (by omega)]
  exact h
theorem atI_lt {α : Type} {xs : List α} {i : Int} (h0 : 0 ≤ i) (h : i < xs.length) : atI xs i = some (xs[i.toNat]'(by omega)) := atI_nat' h0 (List.getElem?_eq_getElem (by omega))
theorem atI_getD {α : Type} {xs : List α} {i : Int} {d : α} (h0 : 0 ≤ i) (h : i < xs.length) : atI xs i = some (xs.getD i.toNat d) := by
  rw [atI_lt h0 h]
  simp [List.getD_eq_getElem?_getD, List.getElem?_eq_getElem (show i.toNat < xs.length by omega)]
theorem at0 {α : Type} {a : α} {r : List α} : atI (a :: r) 0 = some a := atI_nat' (by decide) rfl
theorem at1 {α : Type} {a b : α} {r : List α} : atI (a :: b :: r) 1 = some b := atI_nat' (by decide) rfl
theorem at2 {α : Type} {a b c : α} {r : List α} : atI (a :: b :: c :: r) 2 = some c := atI_nat' (by decide) rfl
theorem at3 {α : Type} {a b c d : α} {r : List α} : atI (a :: b :: c :: d :: r) 3 = some d := atI_nat' (by decide) rfl
theorem at4 {α : Type} {a b c d e : α} {r : List α} : atI (a :: b :: c :: d :: e :: r) 4 = some e := atI_nat' (by decide) rfl
theorem at5 {α : Type} {a b c d e f : α} {r : List α} : atI (a :: b :: c :: d :: e :: f :: r) 5 = some f := atI_nat' (by decide) rfl
theorem letters_eq : ("abcdefghijklmnopqrstuvwxyz" : Str) = S ((List.range 26).map (· + 97)) := by decide +kernel
theorem letters_at {i : Int} (h0 : 0 ≤ i) (h : i < 26) : atI ((List.range 26).map (· + 97)) i = some (97 + i.toNat) := by
  apply atI_nat' h0
  rw [List.getElem?_map, List.getElem?_range (by omega)]
  simp [Nat.add_comm]
/-- tags -/
theorem t1 : decide (("num" : Str) = "of") = false := by decide +kernel
theorem t2 : decide (("name" : Str) = "of") = false := by decide +kernel
theorem t3 : decide (("any" : Str) = "of") = false := by decide +kernel
theorem t4 : decide (("of" : Str) = "of") = true := by decide +kernel
theorem t5 : decide (("num" : Str) = "name") = false := by decide +kernel
theorem t6 : decide (("num" : Str) = "any") = false := by decide +kernel
theorem t7 : decide (("num" : Str) = "num") = true := by decide +kernel
theorem t8 : decide (("name" : Str) = "num") = false := by decide +kernel
theorem t9 : decide (("name" : Str) = "any") = false := by decide +kernel
theorem t10 : decide (("name" : Str) = "name") = true := by decide +kernel
theorem t11 : decide (("any" : Str) = "num") = false := by decide +kernel
theorem t12 : decide (("any" : Str) = "name") = false := by decide +kernel
theorem t13 : decide (("any" : Str) = "any") = true := by decide +kernel
theorem t14 : decide (("of" : Str) = "num") = false := by decide +kernel
theorem t15 : decide (("of" : Str) = "name") = false := by decide +kernel
theorem t16 : decide (("of" : Str) = "any") = false := by decide +kernel
/-- isinstance -/
theorem kb1 : kitB "int" "int" = some true := by decide +kernel
theorem kb2 : kitB "int" "bool" = some false := by decide +kernel
theorem kb3 : kitB "bool" "int" = some true := by decide +kernel
theorem kb4 : kitB "str" "str" = some true := by decide +kernel
theorem kb5 : kitB "list" "list" = some true := by decide +kernel
theorem kb6 : kitB "tuple" "tuple" = some true := by decide +kernel
theorem kb7 : kitB "str" "int" = some false := by decide +kernel
theorem kb8 : kitB "tuple" "int" = some false := by decide +kernel
theorem kb9 : kitB "dict" "dict" = some true := by decide +kernel
theorem kb10 : kitB "bool" "bool" = some true := by decide +kernel
theorem kb11 : kitB "NoneType" "int" = some false := by decide +kernel
/-- ints and texts of a list -/
theorem intsOf_map (ns : List Int) : intsOf (ns.map PV.int) = some ns := by
  induction ns with
  | nil => rfl
  | cons n r ih => simp [intsOf, ih]
theorem strsOf_map (ns : List Str) : strsOf (ns.map PV.str) = some ns := by
  induction ns with
  | nil => rfl
  | cons n r ih => simp [strsOf, ih]
theorem blsOf_map (ns : List Bool) : blsOf (ns.map PV.bl) = some ns := by
  induction ns with
  | nil => rfl
  | cons n r ih => simp [blsOf, ih]
end
end FL
end
section
set_option linter.all false
set_option maxRecDepth 100000
namespace FL
open PySem PySem.Spec PyProof.Rows L2
noncomputable section
def b_L_cell_at : FS :=
    (seqS (ifS (isB (opF ltV (varF 1) (cbF lenV (consA (varF 0) nilA)))) (retS (opF idxV (varF 0) (varF 1))) nxS)
    (retS (cstF (.int 0))))
def F_L_cell_at : Fn := runFn 2 b_L_cell_at
end
end FL
end
section
set_option linter.all false
set_option maxRecDepth 100000
namespace FL
open PySem PySem.Spec PyProof.Rows L2
noncomputable section
def b_L_joined_3_e1 : FE :=
    (opF idxV (varF 4) (cstF (.int 2)))
def b_L_joined_3_s2 : FS :=
    (ifS (isB (opF ninV (varF 5) (varF 3))) (dropS (bmF' "list" appendV (varF 3) (consA (varF 5) nilA))) nxS)
def b_L_joined_3_s3 : FS :=
    (forS (seqI (opF idxV (varF 4) (cstF (.int 1)))) (nameG 5) b_L_joined_3_s2)
def b_L_joined_3_e4 : FE :=
    (opF idxV (varF 4) (cstF (.int 0)))
def b_L_joined_3 : FS :=
    (seqS (setS 2 (tupF (consA (cstF (.str ("of" : Str))) (consA (varF 0) (consA (cbF tupleV (consA (lcF (seqI (varF 1)) [4] (nameG 4) yesT b_L_joined_3_e4) nilA)) nilA)))))
    (seqS (setS 3 (lstF nilA))
    (seqS (forS (seqI (varF 1)) (nameG 4) b_L_joined_3_s3)
    (retS (tupF (consA (varF 2) (consA (varF 3) (consA (opF addV (cstF (.int 1)) (cbF maxV (consA (lcF (seqI (varF 1)) [4] (nameG 4) yesT b_L_joined_3_e1) nilA))) nilA))))))))
def F_L_joined_3 : Fn := runFn 6 b_L_joined_3
end
end FL
end
section
set_option linter.all false
set_option maxRecDepth 100000
namespace FL
open PySem PySem.Spec PyProof.Rows L2
noncomputable section
def b_L_word : FS :=
    (seqS (setS 1 (cstF (.str ("abcdefghijklmnopqrstuvwxyz" : Str))))
    (seqS (setS 2 (opF addV (cstF (.int 1)) (opF modV (varF 0) (cstF (.int 8)))))
    (seqS (setS 3 (opF modV (opF fdivV (varF 0) (cstF (.int 8))) (varF 2)))
    (seqS (setS 4 (opF mulV (opF idxV (varF 1) (opF modV (opF fdivV (varF 0) (cstF (.int 1664))) (cstF (.int 26)))) (varF 2)))
    (retS (opF addV (opF addV (sliF (varF 4) noO (someO (varF 3))) (opF idxV (varF 1) (opF modV (opF fdivV (varF 0) (cstF (.int 64))) (cstF (.int 26))))) (sliF (varF 4) (someO (opF addV (varF 3) (cstF (.int 1)))) noO)))))))
def F_L_word : Fn := runFn 5 b_L_word
end
end FL
end
section
set_option linter.all false
set_option maxRecDepth 100000
namespace FL
open PySem PySem.Spec PyProof.Rows L2
noncomputable section
def b_L_gathered_3_s1 : FS :=
    (seqS (setS 4 (sliF (varF 0) (someO (varF 3)) (someO (opF addV (varF 3) (cstF (.int 4))))))
    (seqS (ifS (isB (opF gtV (cbF lenV (consA (varF 4) nilA)) (cstF (.int 1)))) (setS 4 (lstF (consA (callF 2 F_L_joined_3 [] (consA (callF 1 F_L_word [] (consA (opF fdivV (varF 1) (opF addV (varF 3) (cstF (.int 1)))) nilA)) (consA (varF 4) nilA))) nilA))) nxS)
    (dropS (bmF' "list" appendV (varF 2) (consA (opF idxV (varF 4) (cstF (.int 0))) nilA)))))
def b_L_gathered_3_t2 : FT :=
    (isB (opF gtV (cbF lenV (consA (varF 0) nilA)) (cstF (.int 1))))
def b_L_gathered_3_s3 : FS :=
    (seqS (setS 2 (lstF nilA))
    (seqS (forS (rng3I (consA (cstF (.int 0)) (consA (cbF lenV (consA (varF 0) nilA)) (consA (cstF (.int 4)) nilA)))) (nameG 3) b_L_gathered_3_s1)
    (setS 0 (varF 2))))
def b_L_gathered_3 : FS :=
    (seqS (whS b_L_gathered_3_t2 b_L_gathered_3_s3)
    (retS (opF idxV (varF 0) (cstF (.int 0)))))
def F_L_gathered_3 : Fn := runFn 5 b_L_gathered_3
end
end FL
end
section
set_option linter.all false
set_option maxRecDepth 100000
namespace FL
open PySem PySem.Spec PyProof.Rows L2
noncomputable section
def b_L_number : FS :=
    (seqS (setS 2 (opF subV (opF powV (cstF (.int 10)) (cstF (.int 60))) (cstF (.int 1))))
    (seqS (ifS (isB (opF eqV (opF modV (varF 1) (cstF (.int 4))) (cstF (.int 0)))) (retS (opF subV (opF modV (varF 0) (cstF (.int 19))) (cstF (.int 9)))) nxS)
    (seqS (ifS (isB (opF eqV (opF modV (varF 1) (cstF (.int 4))) (cstF (.int 1)))) (retS (opF subV (opF modV (opF powV (varF 1) (cstF (.int 11))) (opF addV (opF mulV (cstF (.int 2)) (varF 2)) (cstF (.int 1)))) (varF 2))) nxS)
    (seqS (ifS (isB (opF eqV (opF modV (varF 1) (cstF (.int 4))) (cstF (.int 2)))) (retS (opF subV (opF modV (varF 0) (opF addV (opF mulV (cstF (.int 2)) (varF 2)) (cstF (.int 1)))) (varF 2))) nxS)
    (retS (opF idxV (lstF (consA (varF 2) (consA (unF negV (varF 2)) (consA (opF powV (cstF (.int 10)) (cstF (.int 59))) (consA (unF negV (opF powV (cstF (.int 10)) (cstF (.int 59)))) (consA (cstF (.int 10)) (consA (cstF (.int 0)) nilA))))))) (opF modV (opF fdivV (varF 1) (cstF (.int 4))) (cstF (.int 6)))))))))
def F_L_number : Fn := runFn 3 b_L_number
end
end FL
end
section
set_option linter.all false
set_option maxRecDepth 100000
namespace FL
open PySem PySem.Spec PyProof.Rows L2
noncomputable section
def b_L_leaf_3 : FS :=
    (seqS (ifS (isB (opF ltV (opF modV (varF 1) (cstF (.int 4))) (cstF (.int 2)))) (retS (tupF (consA (tupF (consA (cstF (.str ("any" : Str))) (consA (opF idxV (varF 2) (opF modV (opF fdivV (varF 1) (cstF (.int 4))) (cstF (.int 4)))) nilA))) (consA (lstF (consA (opF idxV (varF 2) (opF modV (opF fdivV (varF 1) (cstF (.int 4))) (cstF (.int 4)))) nilA)) (consA (cstF (.int 1)) nilA))))) nxS)
    (seqS (ifS (isB (opF eqV (opF modV (varF 1) (cstF (.int 4))) (cstF (.int 2)))) (retS (tupF (consA (tupF (consA (cstF (.str ("num" : Str))) (consA (callF 2 F_L_number [] (consA (varF 0) (consA (opF fdivV (varF 1) (cstF (.int 4))) nilA))) nilA))) (consA (lstF nilA) (consA (cstF (.int 1)) nilA))))) nxS)
    (retS (tupF (consA (tupF (consA (cstF (.str ("name" : Str))) (consA (opF idxV (varF 2) (opF modV (opF fdivV (varF 1) (cstF (.int 4))) (cstF (.int 4)))) nilA))) (consA (lstF nilA) (consA (cstF (.int 1)) nilA)))))))
def F_L_leaf_3 : Fn := runFn 3 b_L_leaf_3
end
end FL
end
section
set_option linter.all false
set_option maxRecDepth 100000
namespace FL
open PySem PySem.Spec PyProof.Rows L2
noncomputable section
def b_L_mixed : FS :=
    (seqS (setS 2 (opF modV (opF mulV (opF addV (opF modV (varF 0) (cstF (.int 2147483647))) (cstF (.int 1))) (opF addV (cstF (.int 48271)) (opF mulV (opF mulV (cstF (.int 2)) (varF 1)) (varF 1)))) (cstF (.int 2147483647))))
    (retS (opF modV (opF mulV (varF 2) (varF 2)) (cstF (.int 2147483629)))))
def F_L_mixed : Fn := runFn 3 b_L_mixed
end
end FL
end
section
set_option linter.all false
set_option maxRecDepth 100000
namespace FL
open PySem PySem.Spec PyProof.Rows L2
noncomputable section
def b_L_piled_3_e1 : FE :=
    (opF idxV (varF 8) (cstF (.int 2)))
def b_L_piled_3_s2 : FS :=
    (seqS (setS 5 (callF 2 F_L_mixed [] (consA (varF 4) (consA (varF 3) nilA))))
    (seqS (setS 6 (cbF minV (consA (opF addV (cstF (.int 1)) (opF modV (varF 5) (cstF (.int 4)))) (consA (cbF lenV (consA (varF 2) nilA)) nilA))))
    (seqS (setS 7 (sliF (varF 2) (someO (opF subV (cbF lenV (consA (varF 2) nilA)) (varF 6))) noO))
    (ifS (andT (isB (opF gtV (varF 6) (cstF (.int 0)))) (andT (isB (opF ltV (opF modV (opF fdivV (varF 5) (cstF (.int 4))) (cstF (.int 5))) (cstF (.int 2)))) (isB (opF ltV (cbF maxV (consA (lcF (seqI (varF 7)) [8] (nameG 8) yesT b_L_piled_3_e1) nilA)) (cstF (.int 26)))))) (seqS (setS 2 (sliF (varF 2) noO (someO (opF subV (cbF lenV (consA (varF 2) nilA)) (varF 6)))))
    (dropS (bmF' "list" appendV (varF 2) (consA (callF 2 F_L_joined_3 [] (consA (callF 1 F_L_word [] (consA (opF fdivV (varF 5) (cstF (.int 20))) nilA)) (consA (varF 7) nilA))) nilA)))) (dropS (bmF' "list" appendV (varF 2) (consA (callF 3 F_L_leaf_3 [] (consA (varF 4) (consA (opF fdivV (varF 5) (cstF (.int 20))) (consA (varF 1) nilA)))) nilA)))))))
def b_L_piled_3 : FS :=
    (seqS (setS 2 (lstF nilA))
    (seqS (forS (enumI (consA (varF 0) nilA)) (tupG 2 (consG (nameG 3) (consG (nameG 4) nilG))) b_L_piled_3_s2)
    (retS (varF 2))))
def F_L_piled_3 : Fn := runFn 9 b_L_piled_3
end
end FL
end
section
set_option linter.all false
set_option maxRecDepth 100000
namespace FL
open PySem PySem.Spec PyProof.Rows L2
noncomputable section
def b_L_pool : FS :=
    (seqS (setS 1 (callF 1 F_L_word [] (consA (varF 0) nilA)))
    (seqS (setS 2 (opF modV (opF fdivV (varF 0) (cstF (.int 7))) (cbF lenV (consA (varF 1) nilA))))
    (seqS (setS 3 (lstF (consA (varF 1) (consA (opF addV (opF addV (sliF (varF 1) noO (someO (varF 2))) (cstF (.str ("q" : Str)))) (sliF (varF 1) (someO (opF addV (varF 2) (cstF (.int 1)))) noO)) (consA (opF addV (opF addV (sliF (varF 1) noO (someO (varF 2))) (cstF (.str ("z" : Str)))) (sliF (varF 1) (someO (opF addV (varF 2) (cstF (.int 1)))) noO)) nilA)))))
    (seqS (ifS (isB (opF ltV (cbF lenV (consA (varF 1) nilA)) (cstF (.int 8)))) (retS (opF addV (varF 3) (lstF (consA (opF addV (varF 1) (cstF (.str ("z" : Str)))) nilA)))) nxS)
    (retS (opF addV (varF 3) (lstF (consA (sliF (varF 1) noO (someO (cstF (.int 7)))) nilA))))))))
def F_L_pool : Fn := runFn 4 b_L_pool
end
end FL
end
section
set_option linter.all false
set_option maxRecDepth 100000
namespace FL
open PySem PySem.Spec PyProof.Rows L2
noncomputable section
def b_holes_s1 (p_holes : Fn) : FS :=
    (ifS (isB (opF ninV (varF 3) (varF 1))) (dropS (bmF' "list" appendV (varF 1) (consA (varF 3) nilA))) nxS)
def b_holes_s2 (p_holes : Fn) : FS :=
    (forS (seqI (callF 1 p_holes [] (consA (varF 2) nilA))) (nameG 3) (b_holes_s1 p_holes))
def b_holes (p_holes : Fn) : FS :=
    (seqS (setS 1 (lstF nilA))
    (seqS (ifS (isB (opF eqV (opF idxV (varF 0) (cstF (.int 0))) (cstF (.str ("any" : Str))))) (dropS (bmF' "list" appendV (varF 1) (consA (opF idxV (varF 0) (cstF (.int 1))) nilA))) (ifS (isB (opF eqV (opF idxV (varF 0) (cstF (.int 0))) (cstF (.str ("of" : Str))))) (forS (seqI (opF idxV (varF 0) (cstF (.int 2)))) (nameG 2) (b_holes_s2 p_holes)) nxS))
    (retS (varF 1))))
def F_holes : Nat → Fn
  | 0 => fn0
  | n + 1 => runFn 4 (b_holes (F_holes n))
end
end FL
end
section
set_option linter.all false
set_option maxRecDepth 100000
namespace FL
open PySem PySem.Spec PyProof.Rows L2
noncomputable section
def b_law_k02_s1 : FS :=
    (ifS (orT (notT (truT (cbF isiV (consA (opF idxV (varF 5) (varF 6)) (consA (cstF (.ty "str")) nilA))))) (isB (opF neV (opF idxV (varF 5) (varF 6)) (opF idxV (opF idxV (varF 4) (cstF (.int 1))) (varF 6))))) (retS (cstF (.bl false))) nxS)
def b_law_k02_s2 : FS :=
    (setS 4 (callF 2 F_L_joined_3 [] (consA (callF 1 F_L_word [] (consA (opF fdivV (varF 1) (opF addV (varF 6) (cstF (.int 6)))) nilA)) (consA (lstF (consA (varF 4) nilA)) nilA))))
def b_law_k02 : FS :=
    (seqS (setS 1 (callF 2 F_L_mixed [] (consA (callF 2 F_L_cell_at [] (consA (varF 0) (consA (cstF (.int 0)) nilA))) (consA (cstF (.int 91)) nilA))))
    (seqS (setS 2 (callF 1 F_L_pool [] (consA (opF fdivV (varF 1) (cstF (.int 3))) nilA)))
    (seqS (setS 3 (callF 2 F_L_piled_3 [] (consA (sliF (varF 0) noO (someO (cstF (.int 80)))) (consA (varF 2) nilA))))
    (seqS (ifS (isB (opF eqV (cbF lenV (consA (varF 3) nilA)) (cstF (.int 0)))) (dropS (bmF' "list" appendV (varF 3) (consA (callF 3 F_L_leaf_3 [] (consA (cstF (.int 0)) (consA (varF 1) (consA (varF 2) nilA)))) nilA))) nxS)
    (seqS (setS 4 (callF 2 F_L_gathered_3 [] (consA (varF 3) (consA (varF 1) nilA))))
    (seqS (ifS (isB (opF eqV (opF modV (opF fdivV (varF 1) (cstF (.int 116))) (cstF (.int 2))) (cstF (.int 1)))) (seqS (setS 4 (callF 2 F_L_joined_3 [] (consA (callF 1 F_L_word [] (consA (opF fdivV (varF 1) (cstF (.int 5))) nilA)) (consA (opF mulV (lstF (consA (varF 4) nilA)) (opF addV (cstF (.int 1)) (opF modV (varF 1) (cstF (.int 4))))) nilA))))
    (forS (rng1I (consA (opF modV (opF fdivV (varF 1) (cstF (.int 4))) (cstF (.int 29))) nilA)) (nameG 6) b_law_k02_s2)) nxS)
    (seqS (setS 5 (callF 1 (F_holes 64) [] (consA (opF idxV (varF 4) (cstF (.int 0))) nilA)))
    (seqS (ifS (orT (notT (truT (cbF isiV (consA (varF 5) (consA (cstF (.ty "list")) nilA))))) (isB (opF neV (cbF lenV (consA (varF 5) nilA)) (cbF lenV (consA (opF idxV (varF 4) (cstF (.int 1))) nilA))))) (retS (cstF (.bl false))) nxS)
    (seqS (forS (rng1I (consA (cbF lenV (consA (varF 5) nilA)) nilA)) (nameG 6) b_law_k02_s1)
    (retS (cstF (.bl true))))))))))))
def F_law_k02 : Fn := runFn 7 b_law_k02
end
end FL
end
section
set_option linter.all false
set_option maxRecDepth 100000
namespace FL.Wk02
open PySem PySem.Spec PyProof.Rows L2 FL
def topS (i : Nat) : Stmt := PySem.Challenge.pw_samewise_k02_holes_in_order.main.body.getD i (.Pass ⟨0, 0, 0, 0⟩)
abbrev s_L_cell_at : Stmt := topS 3
theorem sc_L_cell_at : FnScope ["_law_script", "_law_k"] ["_law_script", "_law_k"] (defScope s_L_cell_at) := ⟨rfl, rfl, rfl, by decide +kernel, rfl, by decide +kernel, by decide +kernel⟩
abbrev s_L_joined_3 : Stmt := topS 8
theorem sc_L_joined_3 : FnScope ["_law_word_here", "_law_rows", "_law_tree", "_law_words", "_law_row", "_law_some"] ["_law_word_here", "_law_rows"] (defScope s_L_joined_3) := ⟨rfl, rfl, rfl, by decide +kernel, rfl, by decide +kernel, by decide +kernel⟩
abbrev s_L_word : Stmt := topS 5
theorem sc_L_word : FnScope ["_law_m", "_law_signs", "_law_size", "_law_at", "_law_word_here"] ["_law_m"] (defScope s_L_word) := ⟨rfl, rfl, rfl, by decide +kernel, rfl, by decide +kernel, by decide +kernel⟩
abbrev s_L_gathered_3 : Stmt := topS 11
theorem sc_L_gathered_3 : FnScope ["_law_pile", "_law_m", "_law_rows", "_law_k", "_law_some"] ["_law_pile", "_law_m"] (defScope s_L_gathered_3) := ⟨rfl, rfl, rfl, by decide +kernel, rfl, by decide +kernel, by decide +kernel⟩
abbrev s_L_number : Stmt := topS 6
theorem sc_L_number : FnScope ["_law_cell", "_law_m", "_law_most"] ["_law_cell", "_law_m"] (defScope s_L_number) := ⟨rfl, rfl, rfl, by decide +kernel, rfl, by decide +kernel, by decide +kernel⟩
abbrev s_L_leaf_3 : Stmt := topS 7
theorem sc_L_leaf_3 : FnScope ["_law_cell", "_law_m", "_law_pool_here"] ["_law_cell", "_law_m", "_law_pool_here"] (defScope s_L_leaf_3) := ⟨rfl, rfl, rfl, by decide +kernel, rfl, by decide +kernel, by decide +kernel⟩
abbrev s_L_mixed : Stmt := topS 4
theorem sc_L_mixed : FnScope ["_law_cell", "_law_k", "_law_m"] ["_law_cell", "_law_k"] (defScope s_L_mixed) := ⟨rfl, rfl, rfl, by decide +kernel, rfl, by decide +kernel, by decide +kernel⟩
abbrev s_L_piled_3 : Stmt := topS 10
theorem sc_L_piled_3 : FnScope ["_law_cells", "_law_pool_here", "_law_pile", "_law_k", "_law_cell", "_law_m", "_law_many", "_law_rows", "_law_row"] ["_law_cells", "_law_pool_here"] (defScope s_L_piled_3) := ⟨rfl, rfl, rfl, by decide +kernel, rfl, by decide +kernel, by decide +kernel⟩
abbrev s_L_pool : Stmt := topS 9
theorem sc_L_pool : FnScope ["_law_m", "_law_word_here", "_law_at", "_law_pool_here"] ["_law_m"] (defScope s_L_pool) := ⟨rfl, rfl, rfl, by decide +kernel, rfl, by decide +kernel, by decide +kernel⟩
abbrev s_holes : Stmt := topS 1
theorem sc_holes : FnScope ["pattern", "found", "arm", "word"] ["pattern"] (defScope s_holes) := ⟨rfl, rfl, rfl, by decide +kernel, rfl, by decide +kernel, by decide +kernel⟩
abbrev s_law_k02 : Stmt := topS 12
theorem sc_law_k02 : FnScope ["_law_script", "_law_first", "_law_pool_here", "_law_pile", "_law_row", "_law_found", "_law_k"] ["_law_script"] (defScope s_law_k02) := ⟨rfl, rfl, rfl, by decide +kernel, rfl, by decide +kernel, by decide +kernel⟩
structure Txt (K : PySem.W.Frag) (mg : Str → Option Value) where
  a_L_cell_at : Addr
  d_L_cell_at : FuncData
  h_L_cell_at : L2.Fun K "_law_cell_at" "_law_cell_at" s_L_cell_at a_L_cell_at d_L_cell_at
  b0_L_cell_at : Binds K d_L_cell_at ["_law_script", "_law_k"] []
  m_L_cell_at : mg "_law_cell_at" = some (.ref a_L_cell_at)
  a_L_joined_3 : Addr
  d_L_joined_3 : FuncData
  h_L_joined_3 : L2.Fun K "_law_joined" "_law_joined" s_L_joined_3 a_L_joined_3 d_L_joined_3
  b0_L_joined_3 : Binds K d_L_joined_3 ["_law_word_here", "_law_rows"] []
  m_L_joined_3 : mg "_law_joined" = some (.ref a_L_joined_3)
  a_L_word : Addr
  d_L_word : FuncData
  h_L_word : L2.Fun K "_law_word" "_law_word" s_L_word a_L_word d_L_word
  b0_L_word : Binds K d_L_word ["_law_m"] []
  m_L_word : mg "_law_word" = some (.ref a_L_word)
  a_L_gathered_3 : Addr
  d_L_gathered_3 : FuncData
  h_L_gathered_3 : L2.Fun K "_law_gathered" "_law_gathered" s_L_gathered_3 a_L_gathered_3 d_L_gathered_3
  b0_L_gathered_3 : Binds K d_L_gathered_3 ["_law_pile", "_law_m"] []
  m_L_gathered_3 : mg "_law_gathered" = some (.ref a_L_gathered_3)
  a_L_number : Addr
  d_L_number : FuncData
  h_L_number : L2.Fun K "_law_number" "_law_number" s_L_number a_L_number d_L_number
  b0_L_number : Binds K d_L_number ["_law_cell", "_law_m"] []
  m_L_number : mg "_law_number" = some (.ref a_L_number)
  a_L_leaf_3 : Addr
  d_L_leaf_3 : FuncData
  h_L_leaf_3 : L2.Fun K "_law_leaf" "_law_leaf" s_L_leaf_3 a_L_leaf_3 d_L_leaf_3
  b0_L_leaf_3 : Binds K d_L_leaf_3 ["_law_cell", "_law_m", "_law_pool_here"] []
  m_L_leaf_3 : mg "_law_leaf" = some (.ref a_L_leaf_3)
  a_L_mixed : Addr
  d_L_mixed : FuncData
  h_L_mixed : L2.Fun K "_law_mixed" "_law_mixed" s_L_mixed a_L_mixed d_L_mixed
  b0_L_mixed : Binds K d_L_mixed ["_law_cell", "_law_k"] []
  m_L_mixed : mg "_law_mixed" = some (.ref a_L_mixed)
  a_L_piled_3 : Addr
  d_L_piled_3 : FuncData
  h_L_piled_3 : L2.Fun K "_law_piled" "_law_piled" s_L_piled_3 a_L_piled_3 d_L_piled_3
  b0_L_piled_3 : Binds K d_L_piled_3 ["_law_cells", "_law_pool_here"] []
  m_L_piled_3 : mg "_law_piled" = some (.ref a_L_piled_3)
  a_L_pool : Addr
  d_L_pool : FuncData
  h_L_pool : L2.Fun K "_law_pool" "_law_pool" s_L_pool a_L_pool d_L_pool
  b0_L_pool : Binds K d_L_pool ["_law_m"] []
  m_L_pool : mg "_law_pool" = some (.ref a_L_pool)
  a_holes : Addr
  d_holes : FuncData
  h_holes : L2.Fun K "holes" "holes" s_holes a_holes d_holes
  b0_holes : Binds K d_holes ["pattern"] []
  m_holes : mg "holes" = some (.ref a_holes)
  a_law_k02 : Addr
  d_law_k02 : FuncData
  h_law_k02 : L2.Fun K "law" "law" s_law_k02 a_law_k02 d_law_k02
  b0_law_k02 : Binds K d_law_k02 ["_law_script"] []
  m_law_k02 : mg "law" = some (.ref a_law_k02)
  z_len : mg "len" = none
  z_max : mg "max" = none
  z_tuple : mg "tuple" = none
  z_range : mg "range" = none
  z_enumerate : mg "enumerate" = none
  z_min : mg "min" = none
  z_isinstance : mg "isinstance" = none
  z_str : mg "str" = none
  z_list : mg "list" = none
section
variable {P : Program} {w : World} {K : PySem.W.Frag} {mg : Str → Option Value} {base : Heap}
abbrev Txt.ca (T : Txt K mg) : String → Addr := fun n => 0
theorem Txt.b_L_cell_at (T : Txt K mg) : Bnd K T.ca T.d_L_cell_at ["_law_script", "_law_k"] [] := Bnd.nil T.b0_L_cell_at
theorem Txt.b_L_joined_3 (T : Txt K mg) : Bnd K T.ca T.d_L_joined_3 ["_law_word_here", "_law_rows"] [] := Bnd.nil T.b0_L_joined_3
theorem Txt.b_L_word (T : Txt K mg) : Bnd K T.ca T.d_L_word ["_law_m"] [] := Bnd.nil T.b0_L_word
theorem Txt.b_L_gathered_3 (T : Txt K mg) : Bnd K T.ca T.d_L_gathered_3 ["_law_pile", "_law_m"] [] := Bnd.nil T.b0_L_gathered_3
theorem Txt.b_L_number (T : Txt K mg) : Bnd K T.ca T.d_L_number ["_law_cell", "_law_m"] [] := Bnd.nil T.b0_L_number
theorem Txt.b_L_leaf_3 (T : Txt K mg) : Bnd K T.ca T.d_L_leaf_3 ["_law_cell", "_law_m", "_law_pool_here"] [] := Bnd.nil T.b0_L_leaf_3
theorem Txt.b_L_mixed (T : Txt K mg) : Bnd K T.ca T.d_L_mixed ["_law_cell", "_law_k"] [] := Bnd.nil T.b0_L_mixed
theorem Txt.b_L_piled_3 (T : Txt K mg) : Bnd K T.ca T.d_L_piled_3 ["_law_cells", "_law_pool_here"] [] := Bnd.nil T.b0_L_piled_3
theorem Txt.b_L_pool (T : Txt K mg) : Bnd K T.ca T.d_L_pool ["_law_m"] [] := Bnd.nil T.b0_L_pool
theorem Txt.b_holes (T : Txt K mg) : Bnd K T.ca T.d_holes ["pattern"] [] := Bnd.nil T.b0_holes
theorem Txt.b_law_k02 (T : Txt K mg) : Bnd K T.ca T.d_law_k02 ["_law_script"] [] := Bnd.nil T.b0_law_k02
theorem c_L_cell_at (T : Txt K mg) : Cal P w K mg base T.ca 1 T.a_L_cell_at T.d_L_cell_at ["_law_script", "_law_k"] F_L_cell_at :=
  cal_mk (k := 0) (body := b_L_cell_at) T.h_L_cell_at sc_L_cell_at rfl fun cdv A outer s H E hr tk hp =>
    (jss_cons (js_if (jt_cmp of_lt (je_v 1) (je_callB cb_len T.z_len (by decide +kernel) (ja_cons (je_v 0) ja_nil)) (nomark _)) (jss_one (js_ret (je_ix ix_any (je_v 0) (je_v 1)))) jss_nil)
      (jss_one (js_ret je_int)))
theorem c_L_joined_3 (T : Txt K mg) : Cal P w K mg base T.ca 1 T.a_L_joined_3 T.d_L_joined_3 ["_law_word_here", "_law_rows"] F_L_joined_3 :=
  cal_mk (k := 0) (body := b_L_joined_3) T.h_L_joined_3 sc_L_joined_3 rfl fun cdv A outer s H E hr tk hp =>
    (jss_cons (js_set (i := 2) sc_L_joined_3.nd (je_tup (ja_cons je_str (ja_cons (je_v 0) (ja_cons (je_callTy cb_tuple T.z_tuple (by decide +kernel) (ja_cons (je_lc (own := [(("_law_row" : Str), 4)]) rfl sc_L_joined_3.nd (ji_seq (je_v 1)) (blkOk_by (own := [(("_law_row" : Str), 4)]) (N := ["_law_word_here", "_law_rows", "_law_tree", "_law_words", "_law_row", "_law_some"]) (sc := defScope s_L_joined_3) (by decide +kernel)) (by decide) (fun _ _ _ _ _ => (jg_name (i := 4) sc_L_joined_3.nd)) (fun _ _ _ _ _ => jts_nil) (fun _ _ _ _ _ => (je_ix ix_any (je_v 4) je_int))) ja_nil)) ja_nil)))))
      (jss_cons (js_set (i := 3) sc_L_joined_3.nd (je_lst ja_nil))
      (jss_cons (js_for hp rfl (ji_seq (je_v 1)) (jg_name (i := 4) sc_L_joined_3.nd) (jss_one (js_for hp rfl (ji_seq (je_ix ix_any (je_v 4) je_int)) (jg_name (i := 5) sc_L_joined_3.nd) (jss_one (js_if (jt_cmp (of_nin (hu65 hr)) (je_v 5) (je_v 3) (by rfl)) (jss_one (js_expr (je_bm PySem.F.plainAttrs_list PySem.F.slot_list_append PySem.F.type_list_append bm_append (je_v 3) (ja_cons (je_v 5) ja_nil)))) jss_nil)))))
      (jss_one (js_ret (je_tup (ja_cons (je_v 2) (ja_cons (je_v 3) (ja_cons (je_op of_add je_int (je_callB (cb_max rfl) T.z_max (by decide +kernel) (ja_cons (je_lc (own := [(("_law_row" : Str), 4)]) rfl sc_L_joined_3.nd (ji_seq (je_v 1)) (blkOk_by (own := [(("_law_row" : Str), 4)]) (N := ["_law_word_here", "_law_rows", "_law_tree", "_law_words", "_law_row", "_law_some"]) (sc := defScope s_L_joined_3) (by decide +kernel)) (by decide) (fun _ _ _ _ _ => (jg_name (i := 4) sc_L_joined_3.nd)) (fun _ _ _ _ _ => jts_nil) (fun _ _ _ _ _ => (je_ix ix_any (je_v 4) je_int))) ja_nil))) ja_nil)))))))))
theorem c_L_word (T : Txt K mg) : Cal P w K mg base T.ca 1 T.a_L_word T.d_L_word ["_law_m"] F_L_word :=
  cal_mk (k := 0) (body := b_L_word) T.h_L_word sc_L_word rfl fun cdv A outer s H E hr tk hp =>
    (jss_cons (js_set (i := 1) sc_L_word.nd je_str)
      (jss_cons (js_set (i := 2) sc_L_word.nd (je_op of_add je_int (je_op of_mod (je_v 0) je_int)))
      (jss_cons (js_set (i := 3) sc_L_word.nd (je_op of_mod (je_op of_fdiv (je_v 0) je_int) (je_v 2)))
      (jss_cons (js_set (i := 4) sc_L_word.nd (je_op of_mul (je_ix ix_any (je_v 1) (je_op of_mod (je_op of_fdiv (je_v 0) je_int) je_int)) (je_v 2)))
      (jss_one (js_ret (je_op of_add (je_op of_add (je_sl (je_v 4) jo_none (jo_some (je_v 3))) (je_ix ix_any (je_v 1) (je_op of_mod (je_op of_fdiv (je_v 0) je_int) je_int))) (je_sl (je_v 4) (jo_some (je_op of_add (je_v 3) je_int)) jo_none))))))))
theorem c_L_gathered_3 (T : Txt K mg) : Cal P w K mg base T.ca 2 T.a_L_gathered_3 T.d_L_gathered_3 ["_law_pile", "_law_m"] F_L_gathered_3 :=
  cal_mk (k := 1) (body := b_L_gathered_3) T.h_L_gathered_3 sc_L_gathered_3 rfl fun cdv A outer s H E hr tk hp =>
    (jss_cons (js_while hp (jt_cmp of_gt (je_callB cb_len T.z_len (by decide +kernel) (ja_cons (je_v 0) ja_nil)) je_int (nomark _)) (jss_cons (js_set (i := 2) sc_L_gathered_3.nd (je_lst ja_nil))
      (jss_cons (js_for hp rfl (ji_rng3 T.z_range (ja_cons je_int (ja_cons (je_callB cb_len T.z_len (by decide +kernel) (ja_cons (je_v 0) ja_nil)) (ja_cons je_int ja_nil)))) (jg_name (i := 3) sc_L_gathered_3.nd) (jss_cons (js_set (i := 4) sc_L_gathered_3.nd (je_sl (je_v 0) (jo_some (je_v 3)) (jo_some (je_op of_add (je_v 3) je_int))))
      (jss_cons (js_if (jt_cmp of_gt (je_callB cb_len T.z_len (by decide +kernel) (ja_cons (je_v 4) ja_nil)) je_int (nomark _)) (jss_one (js_set (i := 4) sc_L_gathered_3.nd (je_lst (ja_cons (je_call tk (c_L_joined_3 T) T.b_L_joined_3 (hr.mono (by omega)) T.m_L_joined_3 (ja_cons (je_call tk (c_L_word T) T.b_L_word (hr.mono (by omega)) T.m_L_word (ja_cons (je_op of_fdiv (je_v 1) (je_op of_add (je_v 3) je_int)) ja_nil)) (ja_cons (je_v 4) ja_nil))) ja_nil)))) jss_nil)
      (jss_one (js_expr (je_bm PySem.F.plainAttrs_list PySem.F.slot_list_append PySem.F.type_list_append bm_append (je_v 2) (ja_cons (je_ix ix_any (je_v 4) je_int) ja_nil)))))))
      (jss_one (js_set (i := 0) sc_L_gathered_3.nd (je_v 2))))))
      (jss_one (js_ret (je_ix ix_any (je_v 0) je_int))))
theorem c_L_number (T : Txt K mg) : Cal P w K mg base T.ca 1 T.a_L_number T.d_L_number ["_law_cell", "_law_m"] F_L_number :=
  cal_mk (k := 0) (body := b_L_number) T.h_L_number sc_L_number rfl fun cdv A outer s H E hr tk hp =>
    (jss_cons (js_set (i := 2) sc_L_number.nd (je_op of_sub (je_op of_pow je_int je_int) je_int))
      (jss_cons (js_if (jt_cmp (of_eq (hu64 hr)) (je_op of_mod (je_v 1) je_int) je_int (nomark _)) (jss_one (js_ret (je_op of_sub (je_op of_mod (je_v 0) je_int) je_int))) jss_nil)
      (jss_cons (js_if (jt_cmp (of_eq (hu64 hr)) (je_op of_mod (je_v 1) je_int) je_int (nomark _)) (jss_one (js_ret (je_op of_sub (je_op of_mod (je_op of_pow (je_v 1) je_int) (je_op of_add (je_op of_mul je_int (je_v 2)) je_int)) (je_v 2)))) jss_nil)
      (jss_cons (js_if (jt_cmp (of_eq (hu64 hr)) (je_op of_mod (je_v 1) je_int) je_int (nomark _)) (jss_one (js_ret (je_op of_sub (je_op of_mod (je_v 0) (je_op of_add (je_op of_mul je_int (je_v 2)) je_int)) (je_v 2)))) jss_nil)
      (jss_one (js_ret (je_ix ix_any (je_lst (ja_cons (je_v 2) (ja_cons (je_un of_neg (je_v 2)) (ja_cons (je_op of_pow je_int je_int) (ja_cons (je_un of_neg (je_op of_pow je_int je_int)) (ja_cons je_int (ja_cons je_int ja_nil))))))) (je_op of_mod (je_op of_fdiv (je_v 1) je_int) je_int))))))))
theorem c_L_leaf_3 (T : Txt K mg) : Cal P w K mg base T.ca 2 T.a_L_leaf_3 T.d_L_leaf_3 ["_law_cell", "_law_m", "_law_pool_here"] F_L_leaf_3 :=
  cal_mk (k := 1) (body := b_L_leaf_3) T.h_L_leaf_3 sc_L_leaf_3 rfl fun cdv A outer s H E hr tk hp =>
    (jss_cons (js_if (jt_cmp of_lt (je_op of_mod (je_v 1) je_int) je_int (nomark _)) (jss_one (js_ret (je_tup (ja_cons (je_tup (ja_cons je_str (ja_cons (je_ix ix_any (je_v 2) (je_op of_mod (je_op of_fdiv (je_v 1) je_int) je_int)) ja_nil))) (ja_cons (je_lst (ja_cons (je_ix ix_any (je_v 2) (je_op of_mod (je_op of_fdiv (je_v 1) je_int) je_int)) ja_nil)) (ja_cons je_int ja_nil)))))) jss_nil)
      (jss_cons (js_if (jt_cmp (of_eq (hu64 hr)) (je_op of_mod (je_v 1) je_int) je_int (nomark _)) (jss_one (js_ret (je_tup (ja_cons (je_tup (ja_cons je_str (ja_cons (je_call tk (c_L_number T) T.b_L_number (hr.mono (by omega)) T.m_L_number (ja_cons (je_v 0) (ja_cons (je_op of_fdiv (je_v 1) je_int) ja_nil))) ja_nil))) (ja_cons (je_lst ja_nil) (ja_cons je_int ja_nil)))))) jss_nil)
      (jss_one (js_ret (je_tup (ja_cons (je_tup (ja_cons je_str (ja_cons (je_ix ix_any (je_v 2) (je_op of_mod (je_op of_fdiv (je_v 1) je_int) je_int)) ja_nil))) (ja_cons (je_lst ja_nil) (ja_cons je_int ja_nil))))))))
theorem c_L_mixed (T : Txt K mg) : Cal P w K mg base T.ca 1 T.a_L_mixed T.d_L_mixed ["_law_cell", "_law_k"] F_L_mixed :=
  cal_mk (k := 0) (body := b_L_mixed) T.h_L_mixed sc_L_mixed rfl fun cdv A outer s H E hr tk hp =>
    (jss_cons (js_set (i := 2) sc_L_mixed.nd (je_op of_mod (je_op of_mul (je_op of_add (je_op of_mod (je_v 0) je_int) je_int) (je_op of_add je_int (je_op of_mul (je_op of_mul je_int (je_v 1)) (je_v 1)))) je_int))
      (jss_one (js_ret (je_op of_mod (je_op of_mul (je_v 2) (je_v 2)) je_int))))
theorem c_L_piled_3 (T : Txt K mg) : Cal P w K mg base T.ca 3 T.a_L_piled_3 T.d_L_piled_3 ["_law_cells", "_law_pool_here"] F_L_piled_3 :=
  cal_mk (k := 2) (body := b_L_piled_3) T.h_L_piled_3 sc_L_piled_3 rfl fun cdv A outer s H E hr tk hp =>
    (jss_cons (js_set (i := 2) sc_L_piled_3.nd (je_lst ja_nil))
      (jss_cons (js_for hp rfl (ji_enum T.z_enumerate (ja_cons (je_v 0) ja_nil)) (jg_tup rfl (jgs_cons (jg_name (i := 3) sc_L_piled_3.nd) (jgs_cons (jg_name (i := 4) sc_L_piled_3.nd) jgs_nil))) (jss_cons (js_set (i := 5) sc_L_piled_3.nd (je_call tk (c_L_mixed T) T.b_L_mixed (hr.mono (by omega)) T.m_L_mixed (ja_cons (je_v 4) (ja_cons (je_v 3) ja_nil))))
      (jss_cons (js_set (i := 6) sc_L_piled_3.nd (je_callB (cb_min rfl) T.z_min (by decide +kernel) (ja_cons (je_op of_add je_int (je_op of_mod (je_v 5) je_int)) (ja_cons (je_callB cb_len T.z_len (by decide +kernel) (ja_cons (je_v 2) ja_nil)) ja_nil))))
      (jss_cons (js_set (i := 7) sc_L_piled_3.nd (je_sl (je_v 2) (jo_some (je_op of_sub (je_callB cb_len T.z_len (by decide +kernel) (ja_cons (je_v 2) ja_nil)) (je_v 6))) jo_none))
      (jss_one (js_if (JW.jt (jw_and (jt_cmp of_gt (je_v 6) je_int (nomark _)) (jw_and (jt_cmp of_lt (je_op of_mod (je_op of_fdiv (je_v 5) je_int) je_int) je_int (nomark _)) (jw_and1 (jt_cmp of_lt (je_callB (cb_max rfl) T.z_max (by decide +kernel) (ja_cons (je_lc (own := [(("_law_row" : Str), 8)]) rfl sc_L_piled_3.nd (ji_seq (je_v 7)) (blkOk_by (own := [(("_law_row" : Str), 8)]) (N := ["_law_cells", "_law_pool_here", "_law_pile", "_law_k", "_law_cell", "_law_m", "_law_many", "_law_rows", "_law_row"]) (sc := defScope s_L_piled_3) (by decide +kernel)) (by decide) (fun _ _ _ _ _ => (jg_name (i := 8) sc_L_piled_3.nd)) (fun _ _ _ _ _ => jts_nil) (fun _ _ _ _ _ => (je_ix ix_any (je_v 8) je_int))) ja_nil)) je_int (nomark _)))))) (jss_cons (js_set (i := 2) sc_L_piled_3.nd (je_sl (je_v 2) jo_none (jo_some (je_op of_sub (je_callB cb_len T.z_len (by decide +kernel) (ja_cons (je_v 2) ja_nil)) (je_v 6)))))
      (jss_one (js_expr (je_bm PySem.F.plainAttrs_list PySem.F.slot_list_append PySem.F.type_list_append bm_append (je_v 2) (ja_cons (je_call tk (c_L_joined_3 T) T.b_L_joined_3 (hr.mono (by omega)) T.m_L_joined_3 (ja_cons (je_call tk (c_L_word T) T.b_L_word (hr.mono (by omega)) T.m_L_word (ja_cons (je_op of_fdiv (je_v 5) je_int) ja_nil)) (ja_cons (je_v 7) ja_nil))) ja_nil))))) (jss_one (js_expr (je_bm PySem.F.plainAttrs_list PySem.F.slot_list_append PySem.F.type_list_append bm_append (je_v 2) (ja_cons (je_call tk (c_L_leaf_3 T) T.b_L_leaf_3 (hr.mono (by omega)) T.m_L_leaf_3 (ja_cons (je_v 4) (ja_cons (je_op of_fdiv (je_v 5) je_int) (ja_cons (je_v 1) ja_nil)))) ja_nil))))))))))
      (jss_one (js_ret (je_v 2)))))
theorem c_L_pool (T : Txt K mg) : Cal P w K mg base T.ca 2 T.a_L_pool T.d_L_pool ["_law_m"] F_L_pool :=
  cal_mk (k := 1) (body := b_L_pool) T.h_L_pool sc_L_pool rfl fun cdv A outer s H E hr tk hp =>
    (jss_cons (js_set (i := 1) sc_L_pool.nd (je_call tk (c_L_word T) T.b_L_word (hr.mono (by omega)) T.m_L_word (ja_cons (je_v 0) ja_nil)))
      (jss_cons (js_set (i := 2) sc_L_pool.nd (je_op of_mod (je_op of_fdiv (je_v 0) je_int) (je_callB cb_len T.z_len (by decide +kernel) (ja_cons (je_v 1) ja_nil))))
      (jss_cons (js_set (i := 3) sc_L_pool.nd (je_lst (ja_cons (je_v 1) (ja_cons (je_op of_add (je_op of_add (je_sl (je_v 1) jo_none (jo_some (je_v 2))) je_str) (je_sl (je_v 1) (jo_some (je_op of_add (je_v 2) je_int)) jo_none)) (ja_cons (je_op of_add (je_op of_add (je_sl (je_v 1) jo_none (jo_some (je_v 2))) je_str) (je_sl (je_v 1) (jo_some (je_op of_add (je_v 2) je_int)) jo_none)) ja_nil)))))
      (jss_cons (js_if (jt_cmp of_lt (je_callB cb_len T.z_len (by decide +kernel) (ja_cons (je_v 1) ja_nil)) je_int (nomark _)) (jss_one (js_ret (je_op of_add (je_v 3) (je_lst (ja_cons (je_op of_add (je_v 1) je_str) ja_nil))))) jss_nil)
      (jss_one (js_ret (je_op of_add (je_v 3) (je_lst (ja_cons (je_sl (je_v 1) jo_none (jo_some je_int)) ja_nil)))))))))
theorem c_holes (T : Txt K mg) : ∀ n, Cal P w K mg base T.ca (0 + n) T.a_holes T.d_holes ["pattern"] (F_holes n)
  | 0 => Cal.mono (cal_0 T.h_holes.kp) (Nat.zero_le _)
  | n + 1 =>
    have C_holes := c_holes T n
    cal_mk (k := 0 + n) (body := b_holes (F_holes n)) T.h_holes sc_holes rfl fun cdv A outer s H E hr tk hp =>
    (jss_cons (js_set (i := 1) sc_holes.nd (je_lst ja_nil))
      (jss_cons (js_if (jt_cmp (of_eq (hu64 hr)) (je_ix ix_any (je_v 0) je_int) je_str (nomark _)) (jss_one (js_expr (je_bm PySem.F.plainAttrs_list PySem.F.slot_list_append PySem.F.type_list_append bm_append (je_v 1) (ja_cons (je_ix ix_any (je_v 0) je_int) ja_nil)))) (jss_one (js_if (jt_cmp (of_eq (hu64 hr)) (je_ix ix_any (je_v 0) je_int) je_str (nomark _)) (jss_one (js_for hp rfl (ji_seq (je_ix ix_any (je_v 0) je_int)) (jg_name (i := 2) sc_holes.nd) (jss_one (js_for hp rfl (ji_seq (je_call tk C_holes T.b_holes hr T.m_holes (ja_cons (je_v 2) ja_nil))) (jg_name (i := 3) sc_holes.nd) (jss_one (js_if (jt_cmp (of_nin (hu65 hr)) (je_v 3) (je_v 1) (by rfl)) (jss_one (js_expr (je_bm PySem.F.plainAttrs_list PySem.F.slot_list_append PySem.F.type_list_append bm_append (je_v 1) (ja_cons (je_v 3) ja_nil)))) jss_nil)))))) jss_nil)))
      (jss_one (js_ret (je_v 1)))))
theorem c_law_k02 (T : Txt K mg) : Cal P w K mg base T.ca 65 T.a_law_k02 T.d_law_k02 ["_law_script"] F_law_k02 :=
  cal_mk (k := 64) (body := b_law_k02) T.h_law_k02 sc_law_k02 rfl fun cdv A outer s H E hr tk hp =>
    (jss_cons (js_set (i := 1) sc_law_k02.nd (je_call tk (c_L_mixed T) T.b_L_mixed (hr.mono (by omega)) T.m_L_mixed (ja_cons (je_call tk (c_L_cell_at T) T.b_L_cell_at (hr.mono (by omega)) T.m_L_cell_at (ja_cons (je_v 0) (ja_cons je_int ja_nil))) (ja_cons je_int ja_nil))))
      (jss_cons (js_set (i := 2) sc_law_k02.nd (je_call tk (c_L_pool T) T.b_L_pool (hr.mono (by omega)) T.m_L_pool (ja_cons (je_op of_fdiv (je_v 1) je_int) ja_nil)))
      (jss_cons (js_set (i := 3) sc_law_k02.nd (je_call tk (c_L_piled_3 T) T.b_L_piled_3 (hr.mono (by omega)) T.m_L_piled_3 (ja_cons (je_sl (je_v 0) jo_none (jo_some je_int)) (ja_cons (je_v 2) ja_nil))))
      (jss_cons (js_if (jt_cmp (of_eq (hu64 hr)) (je_callB cb_len T.z_len (by decide +kernel) (ja_cons (je_v 3) ja_nil)) je_int (nomark _)) (jss_one (js_expr (je_bm PySem.F.plainAttrs_list PySem.F.slot_list_append PySem.F.type_list_append bm_append (je_v 3) (ja_cons (je_call tk (c_L_leaf_3 T) T.b_L_leaf_3 (hr.mono (by omega)) T.m_L_leaf_3 (ja_cons je_int (ja_cons (je_v 1) (ja_cons (je_v 2) ja_nil)))) ja_nil)))) jss_nil)
      (jss_cons (js_set (i := 4) sc_law_k02.nd (je_call tk (c_L_gathered_3 T) T.b_L_gathered_3 (hr.mono (by omega)) T.m_L_gathered_3 (ja_cons (je_v 3) (ja_cons (je_v 1) ja_nil))))
      (jss_cons (js_if (jt_cmp (of_eq (hu64 hr)) (je_op of_mod (je_op of_fdiv (je_v 1) je_int) je_int) je_int (nomark _)) (jss_cons (js_set (i := 4) sc_law_k02.nd (je_call tk (c_L_joined_3 T) T.b_L_joined_3 (hr.mono (by omega)) T.m_L_joined_3 (ja_cons (je_call tk (c_L_word T) T.b_L_word (hr.mono (by omega)) T.m_L_word (ja_cons (je_op of_fdiv (je_v 1) je_int) ja_nil)) (ja_cons (je_op of_mul (je_lst (ja_cons (je_v 4) ja_nil)) (je_op of_add je_int (je_op of_mod (je_v 1) je_int))) ja_nil))))
      (jss_one (js_for hp rfl (ji_rng1 T.z_range (ja_cons (je_op of_mod (je_op of_fdiv (je_v 1) je_int) je_int) ja_nil)) (jg_name (i := 6) sc_law_k02.nd) (jss_one (js_set (i := 4) sc_law_k02.nd (je_call tk (c_L_joined_3 T) T.b_L_joined_3 (hr.mono (by omega)) T.m_L_joined_3 (ja_cons (je_call tk (c_L_word T) T.b_L_word (hr.mono (by omega)) T.m_L_word (ja_cons (je_op of_fdiv (je_v 1) (je_op of_add (je_v 6) je_int)) ja_nil)) (ja_cons (je_lst (ja_cons (je_v 4) ja_nil)) ja_nil)))))))) jss_nil)
      (jss_cons (js_set (i := 5) sc_law_k02.nd (je_call tk (c_holes T 64) T.b_holes (hr.mono (by omega)) T.m_holes (ja_cons (je_ix ix_any (je_v 4) je_int) ja_nil)))
      (jss_cons (js_if (JW.jt (jw_or (jt_not (jt_tru (je_callB cb_isi T.z_isinstance (by decide +kernel) (ja_cons (je_v 5) (ja_cons (je_ty (by rfl) T.z_list (by decide +kernel)) ja_nil))))) (jw_or1 (jt_cmp (of_ne (hu64 hr)) (je_callB cb_len T.z_len (by decide +kernel) (ja_cons (je_v 5) ja_nil)) (je_callB cb_len T.z_len (by decide +kernel) (ja_cons (je_ix ix_any (je_v 4) je_int) ja_nil)) (nomark _))))) (jss_one (js_ret je_bl)) jss_nil)
      (jss_cons (js_for hp rfl (ji_rng1 T.z_range (ja_cons (je_callB cb_len T.z_len (by decide +kernel) (ja_cons (je_v 5) ja_nil)) ja_nil)) (jg_name (i := 6) sc_law_k02.nd) (jss_one (js_if (JW.jt (jw_or (jt_not (jt_tru (je_callB cb_isi T.z_isinstance (by decide +kernel) (ja_cons (je_ix ix_any (je_v 5) (je_v 6)) (ja_cons (je_ty (by rfl) T.z_str (by decide +kernel)) ja_nil))))) (jw_or1 (jt_cmp (of_ne (hu64 hr)) (je_ix ix_any (je_v 5) (je_v 6)) (je_ix ix_any (je_ix ix_any (je_v 4) je_int) (je_v 6)) (nomark _))))) (jss_one (js_ret je_bl)) jss_nil)))
      (jss_one (js_ret je_bl)))))))))))
end
theorem all_mk {P : Program} {w : World} {K : PySem.W.Frag} {h : Heap} {mg : Str → Option Value} {fa : Addr} (main : ∀ ns : List Int, ns.length ≤ 63 → ∃ st, F_law_k02 [.frz (ns.map PV.int)] [] = .ok (.bl true) st) (X : K.In h) (G : h.Ns mainGlobals mg) (hfa : mg "law" = some (.ref fa))
    {f0 f1 f2 f3 f4 f5 f6 f7 f8 f9 f10 : Addr} {od0 an0 od1 an1 od2 an2 od3 an3 od4 an4 od5 an5 od6 an6 od7 an7 od8 an8 od9 an9 od10 an10 : Option Addr} {sl0 sl1 sl2 sl3 sl4 sl5 sl6 sl7 sl8 sl9 sl10 : Array (Option Value)} {oc0 kV0 dc0 pm0 cd0 ct0 oc1 kV1 dc1 pm1 cd1 ct1 oc2 kV2 dc2 pm2 cd2 ct2 oc3 kV3 dc3 pm3 cd3 ct3 oc4 kV4 dc4 pm4 cd4 ct4 oc5 kV5 dc5 pm5 cd5 ct5 oc6 kV6 dc6 pm6 cd6 ct6 oc7 kV7 dc7 pm7 cd7 ct7 oc8 kV8 dc8 pm8 cd8 ct8 oc9 kV9 dc9 pm9 cd9 ct9 oc10 kV10 dc10 pm10 cd10 ct10 : Value}
    (a0 : PySem.W.nsIn K mainGlobals "_law_cell_at" = some (some (.ref f0)))
    (l0 : K.lookup f0 = some ⟨oc0, od0, .func (PySem.W.fnOf "_law_cell_at" "_law_cell_at" (defArgs s_L_cell_at) (defBody s_L_cell_at) (defScope s_L_cell_at) .none kV0 dc0 pm0 an0 cd0 ct0), sl0⟩)
    (c0 : PySem.W.codeIn K cd0 "_law_cell_at" = true)
    (k0 : PySem.W.keepIn K (.ref f0) = true)
    (a1 : PySem.W.nsIn K mainGlobals "_law_joined" = some (some (.ref f1)))
    (l1 : K.lookup f1 = some ⟨oc1, od1, .func (PySem.W.fnOf "_law_joined" "_law_joined" (defArgs s_L_joined_3) (defBody s_L_joined_3) (defScope s_L_joined_3) .none kV1 dc1 pm1 an1 cd1 ct1), sl1⟩)
    (c1 : PySem.W.codeIn K cd1 "_law_joined" = true)
    (k1 : PySem.W.keepIn K (.ref f1) = true)
    (a2 : PySem.W.nsIn K mainGlobals "_law_word" = some (some (.ref f2)))
    (l2 : K.lookup f2 = some ⟨oc2, od2, .func (PySem.W.fnOf "_law_word" "_law_word" (defArgs s_L_word) (defBody s_L_word) (defScope s_L_word) .none kV2 dc2 pm2 an2 cd2 ct2), sl2⟩)
    (c2 : PySem.W.codeIn K cd2 "_law_word" = true)
    (k2 : PySem.W.keepIn K (.ref f2) = true)
    (a3 : PySem.W.nsIn K mainGlobals "_law_gathered" = some (some (.ref f3)))
    (l3 : K.lookup f3 = some ⟨oc3, od3, .func (PySem.W.fnOf "_law_gathered" "_law_gathered" (defArgs s_L_gathered_3) (defBody s_L_gathered_3) (defScope s_L_gathered_3) .none kV3 dc3 pm3 an3 cd3 ct3), sl3⟩)
    (c3 : PySem.W.codeIn K cd3 "_law_gathered" = true)
    (k3 : PySem.W.keepIn K (.ref f3) = true)
    (a4 : PySem.W.nsIn K mainGlobals "_law_number" = some (some (.ref f4)))
    (l4 : K.lookup f4 = some ⟨oc4, od4, .func (PySem.W.fnOf "_law_number" "_law_number" (defArgs s_L_number) (defBody s_L_number) (defScope s_L_number) .none kV4 dc4 pm4 an4 cd4 ct4), sl4⟩)
    (c4 : PySem.W.codeIn K cd4 "_law_number" = true)
    (k4 : PySem.W.keepIn K (.ref f4) = true)
    (a5 : PySem.W.nsIn K mainGlobals "_law_leaf" = some (some (.ref f5)))
    (l5 : K.lookup f5 = some ⟨oc5, od5, .func (PySem.W.fnOf "_law_leaf" "_law_leaf" (defArgs s_L_leaf_3) (defBody s_L_leaf_3) (defScope s_L_leaf_3) .none kV5 dc5 pm5 an5 cd5 ct5), sl5⟩)
    (c5 : PySem.W.codeIn K cd5 "_law_leaf" = true)
    (k5 : PySem.W.keepIn K (.ref f5) = true)
    (a6 : PySem.W.nsIn K mainGlobals "_law_mixed" = some (some (.ref f6)))
    (l6 : K.lookup f6 = some ⟨oc6, od6, .func (PySem.W.fnOf "_law_mixed" "_law_mixed" (defArgs s_L_mixed) (defBody s_L_mixed) (defScope s_L_mixed) .none kV6 dc6 pm6 an6 cd6 ct6), sl6⟩)
    (c6 : PySem.W.codeIn K cd6 "_law_mixed" = true)
    (k6 : PySem.W.keepIn K (.ref f6) = true)
    (a7 : PySem.W.nsIn K mainGlobals "_law_piled" = some (some (.ref f7)))
    (l7 : K.lookup f7 = some ⟨oc7, od7, .func (PySem.W.fnOf "_law_piled" "_law_piled" (defArgs s_L_piled_3) (defBody s_L_piled_3) (defScope s_L_piled_3) .none kV7 dc7 pm7 an7 cd7 ct7), sl7⟩)
    (c7 : PySem.W.codeIn K cd7 "_law_piled" = true)
    (k7 : PySem.W.keepIn K (.ref f7) = true)
    (a8 : PySem.W.nsIn K mainGlobals "_law_pool" = some (some (.ref f8)))
    (l8 : K.lookup f8 = some ⟨oc8, od8, .func (PySem.W.fnOf "_law_pool" "_law_pool" (defArgs s_L_pool) (defBody s_L_pool) (defScope s_L_pool) .none kV8 dc8 pm8 an8 cd8 ct8), sl8⟩)
    (c8 : PySem.W.codeIn K cd8 "_law_pool" = true)
    (k8 : PySem.W.keepIn K (.ref f8) = true)
    (a9 : PySem.W.nsIn K mainGlobals "holes" = some (some (.ref f9)))
    (l9 : K.lookup f9 = some ⟨oc9, od9, .func (PySem.W.fnOf "holes" "holes" (defArgs s_holes) (defBody s_holes) (defScope s_holes) .none kV9 dc9 pm9 an9 cd9 ct9), sl9⟩)
    (c9 : PySem.W.codeIn K cd9 "holes" = true)
    (k9 : PySem.W.keepIn K (.ref f9) = true)
    (a10 : PySem.W.nsIn K mainGlobals "law" = some (some (.ref f10)))
    (l10 : K.lookup f10 = some ⟨oc10, od10, .func (PySem.W.fnOf "law" "law" (defArgs s_law_k02) (defBody s_law_k02) (defScope s_law_k02) .none kV10 dc10 pm10 an10 cd10 ct10), sl10⟩)
    (c10 : PySem.W.codeIn K cd10 "law" = true)
    (k10 : PySem.W.keepIn K (.ref f10) = true)
    (z_len : PySem.W.nsIn K mainGlobals "len" = some none)
    (z_max : PySem.W.nsIn K mainGlobals "max" = some none)
    (z_tuple : PySem.W.nsIn K mainGlobals "tuple" = some none)
    (z_range : PySem.W.nsIn K mainGlobals "range" = some none)
    (z_enumerate : PySem.W.nsIn K mainGlobals "enumerate" = some none)
    (z_min : PySem.W.nsIn K mainGlobals "min" = some none)
    (z_isinstance : PySem.W.nsIn K mainGlobals "isinstance" = some none)
    (z_str : PySem.W.nsIn K mainGlobals "str" = some none)
    (z_list : PySem.W.nsIn K mainGlobals "list" = some none) :
    ∃ fd : FuncData, (∀ (s : Shared) (v : Value), BindsTo s fd ⟨[v], []⟩ [("_law_script", v)]) ∧ ∀ base : Heap, K.In base → base.Ns mainGlobals mg → FnOk P w K mg base (L2.CX P w) 65 fa fd ["_law_script"] (spTop K) := by
  have e := hfa.symm.trans (PySem.W.mg_of X G a10)
  cases e
  have F0 := fun_mk (st := s_L_cell_at) l0 c0 k0
  have b0 := F0.binds (ps := ["_law_script", "_law_k"]) fun _ _ _ _ _ _ us hl => match us, hl with | [_, _], _ => rfl
  have F1 := fun_mk (st := s_L_joined_3) l1 c1 k1
  have b1 := F1.binds (ps := ["_law_word_here", "_law_rows"]) fun _ _ _ _ _ _ us hl => match us, hl with | [_, _], _ => rfl
  have F2 := fun_mk (st := s_L_word) l2 c2 k2
  have b2 := F2.binds (ps := ["_law_m"]) fun _ _ _ _ _ _ us hl => match us, hl with | [_], _ => rfl
  have F3 := fun_mk (st := s_L_gathered_3) l3 c3 k3
  have b3 := F3.binds (ps := ["_law_pile", "_law_m"]) fun _ _ _ _ _ _ us hl => match us, hl with | [_, _], _ => rfl
  have F4 := fun_mk (st := s_L_number) l4 c4 k4
  have b4 := F4.binds (ps := ["_law_cell", "_law_m"]) fun _ _ _ _ _ _ us hl => match us, hl with | [_, _], _ => rfl
  have F5 := fun_mk (st := s_L_leaf_3) l5 c5 k5
  have b5 := F5.binds (ps := ["_law_cell", "_law_m", "_law_pool_here"]) fun _ _ _ _ _ _ us hl => match us, hl with | [_, _, _], _ => rfl
  have F6 := fun_mk (st := s_L_mixed) l6 c6 k6
  have b6 := F6.binds (ps := ["_law_cell", "_law_k"]) fun _ _ _ _ _ _ us hl => match us, hl with | [_, _], _ => rfl
  have F7 := fun_mk (st := s_L_piled_3) l7 c7 k7
  have b7 := F7.binds (ps := ["_law_cells", "_law_pool_here"]) fun _ _ _ _ _ _ us hl => match us, hl with | [_, _], _ => rfl
  have F8 := fun_mk (st := s_L_pool) l8 c8 k8
  have b8 := F8.binds (ps := ["_law_m"]) fun _ _ _ _ _ _ us hl => match us, hl with | [_], _ => rfl
  have F9 := fun_mk (st := s_holes) l9 c9 k9
  have b9 := F9.binds (ps := ["pattern"]) fun _ _ _ _ _ _ us hl => match us, hl with | [_], _ => rfl
  have F10 := fun_mk (st := s_law_k02) l10 c10 k10
  have b10 := F10.binds (ps := ["_law_script"]) fun _ _ _ _ _ _ us hl => match us, hl with | [_], _ => rfl
  let T : Txt K mg := { a_L_cell_at := _, d_L_cell_at := _, h_L_cell_at := F0, b0_L_cell_at := b0, m_L_cell_at := PySem.W.mg_of X G a0, a_L_joined_3 := _, d_L_joined_3 := _, h_L_joined_3 := F1, b0_L_joined_3 := b1, m_L_joined_3 := PySem.W.mg_of X G a1, a_L_word := _, d_L_word := _, h_L_word := F2, b0_L_word := b2, m_L_word := PySem.W.mg_of X G a2, a_L_gathered_3 := _, d_L_gathered_3 := _, h_L_gathered_3 := F3, b0_L_gathered_3 := b3, m_L_gathered_3 := PySem.W.mg_of X G a3, a_L_number := _, d_L_number := _, h_L_number := F4, b0_L_number := b4, m_L_number := PySem.W.mg_of X G a4, a_L_leaf_3 := _, d_L_leaf_3 := _, h_L_leaf_3 := F5, b0_L_leaf_3 := b5, m_L_leaf_3 := PySem.W.mg_of X G a5, a_L_mixed := _, d_L_mixed := _, h_L_mixed := F6, b0_L_mixed := b6, m_L_mixed := PySem.W.mg_of X G a6, a_L_piled_3 := _, d_L_piled_3 := _, h_L_piled_3 := F7, b0_L_piled_3 := b7, m_L_piled_3 := PySem.W.mg_of X G a7, a_L_pool := _, d_L_pool := _, h_L_pool := F8, b0_L_pool := b8, m_L_pool := PySem.W.mg_of X G a8, a_holes := _, d_holes := _, h_holes := F9, b0_holes := b9, m_holes := PySem.W.mg_of X G a9, a_law_k02 := _, d_law_k02 := _, h_law_k02 := F10, b0_law_k02 := b10, m_law_k02 := PySem.W.mg_of X G a10, z_len := PySem.W.mg_none_of X G z_len, z_max := PySem.W.mg_none_of X G z_max, z_tuple := PySem.W.mg_none_of X G z_tuple, z_range := PySem.W.mg_none_of X G z_range, z_enumerate := PySem.W.mg_none_of X G z_enumerate, z_min := PySem.W.mg_none_of X G z_min, z_isinstance := PySem.W.mg_none_of X G z_isinstance, z_str := PySem.W.mg_none_of X G z_str, z_list := PySem.W.mg_none_of X G z_list }
  refine ⟨PySem.W.fnOf "law" "law" (defArgs s_law_k02) (defBody s_law_k02) (defScope s_law_k02) .none kV10 dc10 pm10 an10 cd10 ct10, fun s v => .of_eq rfl, fun base _ _ => ?_⟩
  exact top_ok (c_law_k02 T) main
end FL.Wk02
end
section
set_option linter.all false
set_option maxRecDepth 100000
namespace FL
open PySem PySem.Spec PyProof.Rows L2
noncomputable section
def b_parts_s1 (p_parts : Fn) : FS :=
    (augS 1 iaddV (callF 1 p_parts [] (consA (varF 2) nilA)))
def b_parts (p_parts : Fn) : FS :=
    (seqS (setS 1 (cstF (.int 1)))
    (seqS (ifS (isB (opF eqV (opF idxV (varF 0) (cstF (.int 0))) (cstF (.str ("of" : Str))))) (forS (seqI (opF idxV (varF 0) (cstF (.int 2)))) (nameG 2) (b_parts_s1 p_parts)) nxS)
    (retS (varF 1))))
def F_parts : Nat → Fn
  | 0 => fn0
  | n + 1 => runFn 3 (b_parts (F_parts n))
end
end FL
end
section
set_option linter.all false
set_option maxRecDepth 100000
namespace FL
open PySem PySem.Spec PyProof.Rows L2
noncomputable section
def b_depth_e1 (p_depth : Fn) : FE :=
    (callF 1 p_depth [] (consA (varF 1) nilA))
def b_depth (p_depth : Fn) : FS :=
    (seqS (ifS (isB (opF neV (opF idxV (varF 0) (cstF (.int 0))) (cstF (.str ("of" : Str))))) (retS (cstF (.int 1))) nxS)
    (retS (opF addV (cstF (.int 1)) (cbF maxV (consA (lcF (seqI (opF idxV (varF 0) (cstF (.int 2)))) [1] (nameG 1) yesT (b_depth_e1 p_depth)) nilA)))))
def F_depth : Nat → Fn
  | 0 => fn0
  | n + 1 => runFn 2 (b_depth (F_depth n))
end
end FL
end
section
set_option linter.all false
set_option maxRecDepth 100000
namespace FL
open PySem PySem.Spec PyProof.Rows L2
noncomputable section
def b_knots_e1 (p_knots : Fn) : FE :=
    (callF 1 p_knots [] (consA (varF 1) nilA))
def b_knots (p_knots : Fn) : FS :=
    (seqS (ifS (isB (opF neV (opF idxV (varF 0) (cstF (.int 0))) (cstF (.str ("of" : Str))))) (retS (cstF (.int 0))) nxS)
    (retS (opF addV (cstF (.int 1)) (cbF sumV (consA (lcF (seqI (opF idxV (varF 0) (cstF (.int 2)))) [1] (nameG 1) yesT (b_knots_e1 p_knots)) nilA)))))
def F_knots : Nat → Fn
  | 0 => fn0
  | n + 1 => runFn 2 (b_knots (F_knots n))
end
end FL
end
section
set_option linter.all false
set_option maxRecDepth 100000
namespace FL
open PySem PySem.Spec PyProof.Rows L2
noncomputable section
/-! ## trees and patterns -/
inductive Tr where
  | num (i : Int) | name (x : Str) | any (x : Str) | of (w : Str) (as : List Tr)
mutual
def Tr.pv : Tr → PV
  | .num i => .tup [.str "num", .int i]
  | .name x => .tup [.str "name", .str x]
  | .any x => .tup [.str "any", .str x]
  | .of w as => .tup [.str "of", .str w, .tup (pvs as)]
def pvs : List Tr → List PV
  | [] => []
  | t :: r => t.pv :: pvs r
end
mutual
def Tr.parts : Tr → Nat
  | .num _ => 1
  | .name _ => 1
  | .any _ => 1
  | .of _ as => 1 + partsL as
def partsL : List Tr → Nat
  | [] => 0
  | t :: r => t.parts + partsL r
end
mutual
def Tr.depth : Tr → Nat
  | .num _ => 1
  | .name _ => 1
  | .any _ => 1
  | .of _ as => 1 + depthL as
def depthL : List Tr → Nat
  | [] => 0
  | t :: r => max t.depth (depthL r)
end
mutual
def Tr.knots : Tr → Nat
  | .num _ => 0
  | .name _ => 0
  | .any _ => 0
  | .of _ as => 1 + knotsL as
def knotsL : List Tr → Nat
  | [] => 0
  | t :: r => t.knots + knotsL r
end
mutual
/-- each knot has arms -/
def Tr.ok : Tr → Bool
  | .of _ as => !as.isEmpty && decide (as.length ≤ 1000) && okL as
  | _ => true
def okL : List Tr → Bool
  | [] => true
  | t :: r => t.ok && okL r
end
theorem pvs_map (as : List Tr) : pvs as = as.map Tr.pv := by
  induction as with
  | nil => rfl
  | cons a r ih => rw [pvs, ih, List.map_cons]
theorem partsL_eq (as : List Tr) : partsL as = (as.map Tr.parts).sum := by
  induction as with
  | nil => rfl
  | cons a r ih => rw [partsL, ih, List.map_cons, List.sum_cons]
theorem knotsL_eq (as : List Tr) : knotsL as = (as.map Tr.knots).sum := by
  induction as with
  | nil => rfl
  | cons a r ih => rw [knotsL, ih, List.map_cons, List.sum_cons]
theorem depthL_le {as : List Tr} {a : Tr} (h : a ∈ as) : a.depth ≤ depthL as := by
  induction as with
  | nil => cases h
  | cons b r ih =>
    rw [depthL]
    rcases List.mem_cons.mp h with rfl | h
    · omega
    · have := ih h; omega
theorem depth_pos (t : Tr) : 1 ≤ t.depth := by cases t <;> simp only [Tr.depth] <;> omega
theorem okL_mem {as : List Tr} (h : okL as = true) {a : Tr} (ha : a ∈ as) : a.ok = true := by
  induction as with
  | nil => cases ha
  | cons b r ih =>
    rw [okL, Bool.and_eq_true] at h
    rcases List.mem_cons.mp ha with rfl | ha
    · exact h.1
    · exact ih h.2 ha
mutual
theorem pv_pure : ∀ t : Tr, pureP t.pv = true
  | .num _ => rfl
  | .name _ => rfl
  | .any _ => rfl
  | .of w as => by
    simp only [Tr.pv, pureP, puresP, Bool.and_true, Bool.true_and]
    exact pvs_pure as
theorem pvs_pure : ∀ as : List Tr, puresP (pvs as) = true
  | [] => rfl
  | t :: r => by rw [pvs, puresP, pv_pure t, pvs_pure r]; rfl
end
theorem sum_nat (l : List Nat) : (l.map fun n : Nat => (n : Int)).sum = ((l.sum : Nat) : Int) := by
  induction l with
  | nil => rfl
  | cons a r ih => rw [List.map_cons, List.sum_cons, ih, List.sum_cons]; simp
theorem F_parts_ok : ∀ (n : Nat) (t : Tr) (st : Store), t.depth ≤ n → F_parts n [t.pv] st = .ok (.int (t.parts : Nat)) st := by
  intro n
  induction n with
  | zero => intro t st h; have := depth_pos t; omega
  | succ n ih =>
    intro t st h
    unfold F_parts
    refine run_rt0 ?_ rfl
    cases t with
    | num i => simp only [b_parts, Tr.pv, seqS, ifS, setS, augS, dropS, retS, retN, nxS, bkS, ctS, asgS, subS, R.toS, R.bind, R.of, opF, unF, varF, cstF, chF, isB, asB, andT, orT, notT, andF, orF, notF, ifF, nilA, consA, tupF, lstF, cbF, callF, bmF', truT, truV, nameG, nilG, consG, tupG, List.set_cons_zero, List.set_cons_succ, List.getElem?_cons_zero, List.getElem?_cons_succ, Option.bind_some, Option.bind_none, Option.map_some, Option.map_none, List.length_cons, List.length_nil, List.cons_append, List.nil_append, List.append_nil, if_true, if_false, ite_true, ite_false, Bool.false_eq_true, reduceIte, reduceCtorEq, List.map_cons, List.map_nil, Nat.sub_self, List.replicate_succ, List.replicate_zero, Nat.reduceSub, Nat.reduceAdd, Nat.reduceLT, Nat.reduceLeDiff, Nat.reduceEqDiff, Nat.reduceMul, Nat.reducePow, Int.reduceLT, Int.reduceLE, Int.reduceAdd, Int.reduceMul, Int.reduceSub, Int.reduceNeg, Int.reduceEq, Int.reducePow, Int.reduceMod, Int.reduceDiv, Int.reduceToNat, decide_true, decide_false, and_true, true_and, and_self, Option.some.injEq, addV, iaddV, subV, mulV, fdivV, modV, powV, negV, cmpV, isNonV, notNonV, eqV, neV, eqB, scEq, t1, t2, t3, t4, t5, t6, t7, t8, t9, t10, t11, t12, t13, t14, t15, t16, idxV, at0, at1, at2, at3, at4, at5, seqAt, lstAt, lenV, isiV, typV, kb1, kb2, kb3, kb4, kb5, kb6, kb7, kb8, kb9, kb10, kb11, Tr.parts]; rfl
    | name i => simp only [b_parts, Tr.pv, seqS, ifS, setS, augS, dropS, retS, retN, nxS, bkS, ctS, asgS, subS, R.toS, R.bind, R.of, opF, unF, varF, cstF, chF, isB, asB, andT, orT, notT, andF, orF, notF, ifF, nilA, consA, tupF, lstF, cbF, callF, bmF', truT, truV, nameG, nilG, consG, tupG, List.set_cons_zero, List.set_cons_succ, List.getElem?_cons_zero, List.getElem?_cons_succ, Option.bind_some, Option.bind_none, Option.map_some, Option.map_none, List.length_cons, List.length_nil, List.cons_append, List.nil_append, List.append_nil, if_true, if_false, ite_true, ite_false, Bool.false_eq_true, reduceIte, reduceCtorEq, List.map_cons, List.map_nil, Nat.sub_self, List.replicate_succ, List.replicate_zero, Nat.reduceSub, Nat.reduceAdd, Nat.reduceLT, Nat.reduceLeDiff, Nat.reduceEqDiff, Nat.reduceMul, Nat.reducePow, Int.reduceLT, Int.reduceLE, Int.reduceAdd, Int.reduceMul, Int.reduceSub, Int.reduceNeg, Int.reduceEq, Int.reducePow, Int.reduceMod, Int.reduceDiv, Int.reduceToNat, decide_true, decide_false, and_true, true_and, and_self, Option.some.injEq, addV, iaddV, subV, mulV, fdivV, modV, powV, negV, cmpV, isNonV, notNonV, eqV, neV, eqB, scEq, t1, t2, t3, t4, t5, t6, t7, t8, t9, t10, t11, t12, t13, t14, t15, t16, idxV, at0, at1, at2, at3, at4, at5, seqAt, lstAt, lenV, isiV, typV, kb1, kb2, kb3, kb4, kb5, kb6, kb7, kb8, kb9, kb10, kb11, Tr.parts]; rfl
    | any i => simp only [b_parts, Tr.pv, seqS, ifS, setS, augS, dropS, retS, retN, nxS, bkS, ctS, asgS, subS, R.toS, R.bind, R.of, opF, unF, varF, cstF, chF, isB, asB, andT, orT, notT, andF, orF, notF, ifF, nilA, consA, tupF, lstF, cbF, callF, bmF', truT, truV, nameG, nilG, consG, tupG, List.set_cons_zero, List.set_cons_succ, List.getElem?_cons_zero, List.getElem?_cons_succ, Option.bind_some, Option.bind_none, Option.map_some, Option.map_none, List.length_cons, List.length_nil, List.cons_append, List.nil_append, List.append_nil, if_true, if_false, ite_true, ite_false, Bool.false_eq_true, reduceIte, reduceCtorEq, List.map_cons, List.map_nil, Nat.sub_self, List.replicate_succ, List.replicate_zero, Nat.reduceSub, Nat.reduceAdd, Nat.reduceLT, Nat.reduceLeDiff, Nat.reduceEqDiff, Nat.reduceMul, Nat.reducePow, Int.reduceLT, Int.reduceLE, Int.reduceAdd, Int.reduceMul, Int.reduceSub, Int.reduceNeg, Int.reduceEq, Int.reducePow, Int.reduceMod, Int.reduceDiv, Int.reduceToNat, decide_true, decide_false, and_true, true_and, and_self, Option.some.injEq, addV, iaddV, subV, mulV, fdivV, modV, powV, negV, cmpV, isNonV, notNonV, eqV, neV, eqB, scEq, t1, t2, t3, t4, t5, t6, t7, t8, t9, t10, t11, t12, t13, t14, t15, t16, idxV, at0, at1, at2, at3, at4, at5, seqAt, lstAt, lenV, isiV, typV, kb1, kb2, kb3, kb4, kb5, kb6, kb7, kb8, kb9, kb10, kb11, Tr.parts]; rfl
    | of w as =>
      simp only [Tr.depth] at h
      obtain ⟨e', st', h1, h2⟩ := forL_inv (gd := []) (g := nameG 2) (b := b_parts_s1 (F_parts n)) (xs := pvs as)
        (fun i e s => s = st ∧ ∃ v, e = [some (Tr.of w as).pv, some (.int ((1 + ((as.take i).map Tr.parts).sum : Nat) : Int)), v]) (e := [some (Tr.of w as).pv, some (.int 1), none]) (st := st) ⟨rfl, none, rfl⟩ (fun i x e s hx hP => by
          obtain ⟨rfl, v, rfl⟩ := hP
          rw [pvs_map, List.getElem?_map] at hx
          obtain ⟨a, ha, rfl⟩ := Option.map_eq_some_iff.mp hx
          have hd := depthL_le (List.mem_of_getElem? ha)
          refine ⟨gd_nil _, _, rfl, _, _, ?_, rfl, some a.pv, rfl⟩
          simp only [b_parts_s1, seqS, ifS, setS, augS, dropS, retS, retN, nxS, bkS, ctS, asgS, subS, R.toS, R.bind, R.of, opF, unF, varF, cstF, chF, isB, asB, andT, orT, notT, andF, orF, notF, ifF, nilA, consA, tupF, lstF, cbF, callF, bmF', truT, truV, nameG, nilG, consG, tupG, List.set_cons_zero, List.set_cons_succ, List.getElem?_cons_zero, List.getElem?_cons_succ, Option.bind_some, Option.bind_none, Option.map_some, Option.map_none, List.length_cons, List.length_nil, List.cons_append, List.nil_append, List.append_nil, if_true, if_false, ite_true, ite_false, Bool.false_eq_true, reduceIte, reduceCtorEq, List.map_cons, List.map_nil, Nat.sub_self, List.replicate_succ, List.replicate_zero, Nat.reduceSub, Nat.reduceAdd, Nat.reduceLT, Nat.reduceLeDiff, Nat.reduceEqDiff, Nat.reduceMul, Nat.reducePow, Int.reduceLT, Int.reduceLE, Int.reduceAdd, Int.reduceMul, Int.reduceSub, Int.reduceNeg, Int.reduceEq, Int.reducePow, Int.reduceMod, Int.reduceDiv, Int.reduceToNat, decide_true, decide_false, and_true, true_and, and_self, Option.some.injEq, addV, iaddV, subV, mulV, fdivV, modV, powV, negV, cmpV, isNonV, notNonV, ih a s (by omega)]
          rw [List.take_add_one, ha]
          simp only [Option.toList_some, List.map_append, List.sum_append, List.map_cons, List.map_nil, List.sum_cons, List.sum_nil]
          congr 5
          omega) (fun e s _ => gd_nil _)
      obtain ⟨rfl, v, rfl⟩ := h2
      rw [pvs_map, List.length_map, List.take_length, ← partsL_eq] at h1
      rw [← pvs_map] at h1
      simp only [Tr.pv] at h1
      simp only [b_parts, Tr.pv, seqS, ifS, setS, augS, dropS, retS, retN, nxS, bkS, ctS, asgS, subS, R.toS, R.bind, R.of, opF, unF, varF, cstF, chF, isB, asB, andT, orT, notT, andF, orF, notF, ifF, nilA, consA, tupF, lstF, cbF, callF, bmF', truT, truV, nameG, nilG, consG, tupG, List.set_cons_zero, List.set_cons_succ, List.getElem?_cons_zero, List.getElem?_cons_succ, Option.bind_some, Option.bind_none, Option.map_some, Option.map_none, List.length_cons, List.length_nil, List.cons_append, List.nil_append, List.append_nil, if_true, if_false, ite_true, ite_false, Bool.false_eq_true, reduceIte, reduceCtorEq, List.map_cons, List.map_nil, Nat.sub_self, List.replicate_succ, List.replicate_zero, Nat.reduceSub, Nat.reduceAdd, Nat.reduceLT, Nat.reduceLeDiff, Nat.reduceEqDiff, Nat.reduceMul, Nat.reducePow, Int.reduceLT, Int.reduceLE, Int.reduceAdd, Int.reduceMul, Int.reduceSub, Int.reduceNeg, Int.reduceEq, Int.reducePow, Int.reduceMod, Int.reduceDiv, Int.reduceToNat, decide_true, decide_false, and_true, true_and, and_self, Option.some.injEq, addV, iaddV, subV, mulV, fdivV, modV, powV, negV, cmpV, isNonV, notNonV, eqV, neV, eqB, scEq, t1, t2, t3, t4, t5, t6, t7, t8, t9, t10, t11, t12, t13, t14, t15, t16, idxV, at0, at1, at2, at3, at4, at5, seqAt, lstAt, lenV, isiV, typV, kb1, kb2, kb3, kb4, kb5, kb6, kb7, kb8, kb9, kb10, kb11, Tr.parts, forS, seqI, gdOf, h1]
theorem foldl_max (l : List Nat) (a : Nat) : (l.map fun n : Nat => (n : Int)).foldl max (a : Int) = ((l.foldl max a : Nat) : Int) := by
  induction l generalizing a with
  | nil => rfl
  | cons b r ih =>
    rw [List.map_cons, List.foldl_cons, List.foldl_cons, ← ih]
    congr 1
    omega
theorem depthL_fold (as : List Tr) (a : Nat) : (as.map Tr.depth).foldl max a = max a (depthL as) := by
  induction as generalizing a with
  | nil => simp [depthL]
  | cons b r ih => rw [List.map_cons, List.foldl_cons, ih, depthL]; omega
theorem maxL_depth {as : List Tr} (h : as ≠ []) : maxL (as.map fun a => ((a.depth : Nat) : Int)) = ((depthL as : Nat) : Int) := by
  cases as with
  | nil => exact absurd rfl h
  | cons b r =>
    have e : ((b :: r).map fun a => ((a.depth : Nat) : Int)) = ((b :: r).map Tr.depth).map fun n : Nat => (n : Int) := by rw [List.map_map]; rfl
    unfold maxL
    rw [e]
    show List.foldl max ((b.depth : Nat) : Int) _ = _
    rw [foldl_max, depthL_fold, depthL]
    congr 1
    omega
theorem intsOf_mapf {α : Type} (xs : List α) (f : α → Int) : intsOf (xs.map fun a => PV.int (f a)) = some (xs.map f) := by
  have := intsOf_map (xs.map f)
  rwa [List.map_map] at this
theorem gd_one {s : Store} {r : Nat} {o : PO} (h : s[r]? = some o) : GdOk [(r, o)] s := fun p hp => by
  rw [List.mem_singleton] at hp
  subst hp
  exact h
theorem lcE {α : Type} {i k : Nat} {fe : FE} {e : Env} {s : Store} (r : Nat) (as : List α) (f φ : α → PV) (hv : e[i]? = some (some (.ref r))) (hs : s[r]? = some (.lst (as.map f))) (hl : as.length ≤ 1000000)
    (hx : ∀ a ∈ as, ∀ acc, fe ((wipeE e [k]).set k (some (f a))) (s ++ [.lst acc]) = .ok (φ a) (s ++ [.lst acc])) :
    lcF (seqI (varF i)) [k] (nameG k) yesT fe e s = .ok (.ref s.length) (s ++ [.lst (as.map φ)]) :=
  lcF_map (gd := [(r, .lst (as.map f))]) as f φ (by simp only [seqI, varF, hv, R.bind, seqAt, lstAt, hs, gdOf]) (fun acc => gd_one (getOld hs)) (by rw [sizeLine_eq]; omega) fun a ha => ⟨_, rfl, hx a ha⟩
theorem lcT {α : Type} {i k : Nat} {fi : FE} {fe : FE} {e : Env} {s : Store} (as : List α) (f φ : α → PV) (hv : fi e s = .ok (.tup (as.map f)) s) (hl : as.length ≤ 1000000)
    (hx : ∀ a ∈ as, ∀ acc, fe ((wipeE e [k]).set k (some (f a))) (s ++ [.lst acc]) = .ok (φ a) (s ++ [.lst acc])) :
    lcF (seqI fi) [k] (nameG k) yesT fe e s = .ok (.ref s.length) (s ++ [.lst (as.map φ)]) :=
  lcF_map (gd := []) as f φ (by simp only [seqI, hv, R.bind, seqAt, gdOf]) (fun acc => gd_nil _) (by rw [sizeLine_eq]; omega) fun a ha => ⟨_, rfl, hx a ha⟩
theorem okL_ne {as : List Tr} {w : Str} (h : (Tr.of w as).ok = true) : as ≠ [] ∧ as.length ≤ 1000 ∧ okL as = true := by
  simp only [Tr.ok, Bool.and_eq_true, decide_eq_true_eq, Bool.not_eq_true', List.isEmpty_eq_false_iff] at h
  exact ⟨h.1.1, h.1.2, h.2⟩
theorem F_depth_ok : ∀ (n : Nat) (t : Tr) (st : Store), t.depth ≤ n → t.ok = true → F_depth n [t.pv] st = .ok (.int (t.depth : Nat)) st := by
  intro n
  induction n with
  | zero => intro t st h; have := depth_pos t; omega
  | succ n ih =>
    intro t st h hok
    unfold F_depth
    cases t with
    | num i => refine run_rt0 ?_ rfl; simp only [b_depth, Tr.pv, seqS, ifS, setS, augS, dropS, retS, retN, nxS, bkS, ctS, asgS, subS, R.toS, R.bind, R.of, opF, unF, varF, cstF, chF, isB, asB, andT, orT, notT, andF, orF, notF, ifF, nilA, consA, tupF, lstF, cbF, callF, bmF', truT, truV, nameG, nilG, consG, tupG, List.set_cons_zero, List.set_cons_succ, List.getElem?_cons_zero, List.getElem?_cons_succ, Option.bind_some, Option.bind_none, Option.map_some, Option.map_none, List.length_cons, List.length_nil, List.cons_append, List.nil_append, List.append_nil, if_true, if_false, ite_true, ite_false, Bool.false_eq_true, reduceIte, reduceCtorEq, List.map_cons, List.map_nil, Nat.sub_self, List.replicate_succ, List.replicate_zero, Nat.reduceSub, Nat.reduceAdd, Nat.reduceLT, Nat.reduceLeDiff, Nat.reduceEqDiff, Nat.reduceMul, Nat.reducePow, Int.reduceLT, Int.reduceLE, Int.reduceAdd, Int.reduceMul, Int.reduceSub, Int.reduceNeg, Int.reduceEq, Int.reducePow, Int.reduceMod, Int.reduceDiv, Int.reduceToNat, decide_true, decide_false, and_true, true_and, and_self, Option.some.injEq, addV, iaddV, subV, mulV, fdivV, modV, powV, negV, cmpV, isNonV, notNonV, eqV, neV, eqB, scEq, t1, t2, t3, t4, t5, t6, t7, t8, t9, t10, t11, t12, t13, t14, t15, t16, idxV, at0, at1, at2, at3, at4, at5, seqAt, lstAt, lenV, isiV, typV, kb1, kb2, kb3, kb4, kb5, kb6, kb7, kb8, kb9, kb10, kb11, Tr.depth, Bool.not_false]; rfl
    | name i => refine run_rt0 ?_ rfl; simp only [b_depth, Tr.pv, seqS, ifS, setS, augS, dropS, retS, retN, nxS, bkS, ctS, asgS, subS, R.toS, R.bind, R.of, opF, unF, varF, cstF, chF, isB, asB, andT, orT, notT, andF, orF, notF, ifF, nilA, consA, tupF, lstF, cbF, callF, bmF', truT, truV, nameG, nilG, consG, tupG, List.set_cons_zero, List.set_cons_succ, List.getElem?_cons_zero, List.getElem?_cons_succ, Option.bind_some, Option.bind_none, Option.map_some, Option.map_none, List.length_cons, List.length_nil, List.cons_append, List.nil_append, List.append_nil, if_true, if_false, ite_true, ite_false, Bool.false_eq_true, reduceIte, reduceCtorEq, List.map_cons, List.map_nil, Nat.sub_self, List.replicate_succ, List.replicate_zero, Nat.reduceSub, Nat.reduceAdd, Nat.reduceLT, Nat.reduceLeDiff, Nat.reduceEqDiff, Nat.reduceMul, Nat.reducePow, Int.reduceLT, Int.reduceLE, Int.reduceAdd, Int.reduceMul, Int.reduceSub, Int.reduceNeg, Int.reduceEq, Int.reducePow, Int.reduceMod, Int.reduceDiv, Int.reduceToNat, decide_true, decide_false, and_true, true_and, and_self, Option.some.injEq, addV, iaddV, subV, mulV, fdivV, modV, powV, negV, cmpV, isNonV, notNonV, eqV, neV, eqB, scEq, t1, t2, t3, t4, t5, t6, t7, t8, t9, t10, t11, t12, t13, t14, t15, t16, idxV, at0, at1, at2, at3, at4, at5, seqAt, lstAt, lenV, isiV, typV, kb1, kb2, kb3, kb4, kb5, kb6, kb7, kb8, kb9, kb10, kb11, Tr.depth, Bool.not_false]; rfl
    | any i => refine run_rt0 ?_ rfl; simp only [b_depth, Tr.pv, seqS, ifS, setS, augS, dropS, retS, retN, nxS, bkS, ctS, asgS, subS, R.toS, R.bind, R.of, opF, unF, varF, cstF, chF, isB, asB, andT, orT, notT, andF, orF, notF, ifF, nilA, consA, tupF, lstF, cbF, callF, bmF', truT, truV, nameG, nilG, consG, tupG, List.set_cons_zero, List.set_cons_succ, List.getElem?_cons_zero, List.getElem?_cons_succ, Option.bind_some, Option.bind_none, Option.map_some, Option.map_none, List.length_cons, List.length_nil, List.cons_append, List.nil_append, List.append_nil, if_true, if_false, ite_true, ite_false, Bool.false_eq_true, reduceIte, reduceCtorEq, List.map_cons, List.map_nil, Nat.sub_self, List.replicate_succ, List.replicate_zero, Nat.reduceSub, Nat.reduceAdd, Nat.reduceLT, Nat.reduceLeDiff, Nat.reduceEqDiff, Nat.reduceMul, Nat.reducePow, Int.reduceLT, Int.reduceLE, Int.reduceAdd, Int.reduceMul, Int.reduceSub, Int.reduceNeg, Int.reduceEq, Int.reducePow, Int.reduceMod, Int.reduceDiv, Int.reduceToNat, decide_true, decide_false, and_true, true_and, and_self, Option.some.injEq, addV, iaddV, subV, mulV, fdivV, modV, powV, negV, cmpV, isNonV, notNonV, eqV, neV, eqB, scEq, t1, t2, t3, t4, t5, t6, t7, t8, t9, t10, t11, t12, t13, t14, t15, t16, idxV, at0, at1, at2, at3, at4, at5, seqAt, lstAt, lenV, isiV, typV, kb1, kb2, kb3, kb4, kb5, kb6, kb7, kb8, kb9, kb10, kb11, Tr.depth, Bool.not_false]; rfl
    | of w as =>
      obtain ⟨o1, o2, o3⟩ := okL_ne hok
      simp only [Tr.depth] at h
      refine run_rt (g := [.lst (as.map fun a => .int (a.depth : Nat))]) ?_ rfl
      have hl := lcT (i := 0) (k := 1) (fi := opF idxV (varF 0) (cstF (.int 2))) (fe := b_depth_e1 (F_depth n)) (e := [some (Tr.of w as).pv, none]) (s := st) as Tr.pv (fun a => .int (a.depth : Nat)) (by simp only [Tr.pv, pvs_map, seqS, ifS, setS, augS, dropS, retS, retN, nxS, bkS, ctS, asgS, subS, R.toS, R.bind, R.of, opF, unF, varF, cstF, chF, isB, asB, andT, orT, notT, andF, orF, notF, ifF, nilA, consA, tupF, lstF, cbF, callF, bmF', truT, truV, nameG, nilG, consG, tupG, List.set_cons_zero, List.set_cons_succ, List.getElem?_cons_zero, List.getElem?_cons_succ, Option.bind_some, Option.bind_none, Option.map_some, Option.map_none, List.length_cons, List.length_nil, List.cons_append, List.nil_append, List.append_nil, if_true, if_false, ite_true, ite_false, Bool.false_eq_true, reduceIte, reduceCtorEq, List.map_cons, List.map_nil, Nat.sub_self, List.replicate_succ, List.replicate_zero, Nat.reduceSub, Nat.reduceAdd, Nat.reduceLT, Nat.reduceLeDiff, Nat.reduceEqDiff, Nat.reduceMul, Nat.reducePow, Int.reduceLT, Int.reduceLE, Int.reduceAdd, Int.reduceMul, Int.reduceSub, Int.reduceNeg, Int.reduceEq, Int.reducePow, Int.reduceMod, Int.reduceDiv, Int.reduceToNat, decide_true, decide_false, and_true, true_and, and_self, Option.some.injEq, idxV, at0, at1, at2, at3, at4, at5, seqAt, lstAt, lenV, isiV, typV, kb1, kb2, kb3, kb4, kb5, kb6, kb7, kb8, kb9, kb10, kb11]) (by omega) (fun a ha acc => by
        simp only [b_depth_e1, wipeE, seqS, ifS, setS, augS, dropS, retS, retN, nxS, bkS, ctS, asgS, subS, R.toS, R.bind, R.of, opF, unF, varF, cstF, chF, isB, asB, andT, orT, notT, andF, orF, notF, ifF, nilA, consA, tupF, lstF, cbF, callF, bmF', truT, truV, nameG, nilG, consG, tupG, List.set_cons_zero, List.set_cons_succ, List.getElem?_cons_zero, List.getElem?_cons_succ, Option.bind_some, Option.bind_none, Option.map_some, Option.map_none, List.length_cons, List.length_nil, List.cons_append, List.nil_append, List.append_nil, if_true, if_false, ite_true, ite_false, Bool.false_eq_true, reduceIte, reduceCtorEq, List.map_cons, List.map_nil, Nat.sub_self, List.replicate_succ, List.replicate_zero, Nat.reduceSub, Nat.reduceAdd, Nat.reduceLT, Nat.reduceLeDiff, Nat.reduceEqDiff, Nat.reduceMul, Nat.reducePow, Int.reduceLT, Int.reduceLE, Int.reduceAdd, Int.reduceMul, Int.reduceSub, Int.reduceNeg, Int.reduceEq, Int.reducePow, Int.reduceMod, Int.reduceDiv, Int.reduceToNat, decide_true, decide_false, and_true, true_and, and_self, Option.some.injEq, ih a _ (Nat.le_trans (depthL_le ha) (by omega)) (okL_mem o3 ha)])
      simp only [Tr.pv] at hl
      have hne : (as.map fun a => ((a.depth : Nat) : Int)) ≠ [] := by simpa using o1
      simp only [b_depth, Tr.pv, seqS, ifS, setS, augS, dropS, retS, retN, nxS, bkS, ctS, asgS, subS, R.toS, R.bind, R.of, opF, unF, varF, cstF, chF, isB, asB, andT, orT, notT, andF, orF, notF, ifF, nilA, consA, tupF, lstF, cbF, callF, bmF', truT, truV, nameG, nilG, consG, tupG, List.set_cons_zero, List.set_cons_succ, List.getElem?_cons_zero, List.getElem?_cons_succ, Option.bind_some, Option.bind_none, Option.map_some, Option.map_none, List.length_cons, List.length_nil, List.cons_append, List.nil_append, List.append_nil, if_true, if_false, ite_true, ite_false, Bool.false_eq_true, reduceIte, reduceCtorEq, List.map_cons, List.map_nil, Nat.sub_self, List.replicate_succ, List.replicate_zero, Nat.reduceSub, Nat.reduceAdd, Nat.reduceLT, Nat.reduceLeDiff, Nat.reduceEqDiff, Nat.reduceMul, Nat.reducePow, Int.reduceLT, Int.reduceLE, Int.reduceAdd, Int.reduceMul, Int.reduceSub, Int.reduceNeg, Int.reduceEq, Int.reducePow, Int.reduceMod, Int.reduceDiv, Int.reduceToNat, decide_true, decide_false, and_true, true_and, and_self, Option.some.injEq, addV, iaddV, subV, mulV, fdivV, modV, powV, negV, cmpV, isNonV, notNonV, eqV, neV, eqB, scEq, t1, t2, t3, t4, t5, t6, t7, t8, t9, t10, t11, t12, t13, t14, t15, t16, idxV, at0, at1, at2, at3, at4, at5, seqAt, lstAt, lenV, isiV, typV, kb1, kb2, kb3, kb4, kb5, kb6, kb7, kb8, kb9, kb10, kb11, Tr.depth, Bool.not_true, hl, maxV, getS0, intsOf_mapf as (fun a => ((a.depth : Nat) : Int)), hne, maxL_depth o1]
      simp
theorem F_knots_ok : ∀ (n : Nat) (t : Tr) (st : Store), t.depth ≤ n → t.ok = true → F_knots n [t.pv] st = .ok (.int (t.knots : Nat)) st := by
  intro n
  induction n with
  | zero => intro t st h; have := depth_pos t; omega
  | succ n ih =>
    intro t st h hok
    unfold F_knots
    cases t with
    | num i => refine run_rt0 ?_ rfl; simp only [b_knots, Tr.pv, seqS, ifS, setS, augS, dropS, retS, retN, nxS, bkS, ctS, asgS, subS, R.toS, R.bind, R.of, opF, unF, varF, cstF, chF, isB, asB, andT, orT, notT, andF, orF, notF, ifF, nilA, consA, tupF, lstF, cbF, callF, bmF', truT, truV, nameG, nilG, consG, tupG, List.set_cons_zero, List.set_cons_succ, List.getElem?_cons_zero, List.getElem?_cons_succ, Option.bind_some, Option.bind_none, Option.map_some, Option.map_none, List.length_cons, List.length_nil, List.cons_append, List.nil_append, List.append_nil, if_true, if_false, ite_true, ite_false, Bool.false_eq_true, reduceIte, reduceCtorEq, List.map_cons, List.map_nil, Nat.sub_self, List.replicate_succ, List.replicate_zero, Nat.reduceSub, Nat.reduceAdd, Nat.reduceLT, Nat.reduceLeDiff, Nat.reduceEqDiff, Nat.reduceMul, Nat.reducePow, Int.reduceLT, Int.reduceLE, Int.reduceAdd, Int.reduceMul, Int.reduceSub, Int.reduceNeg, Int.reduceEq, Int.reducePow, Int.reduceMod, Int.reduceDiv, Int.reduceToNat, decide_true, decide_false, and_true, true_and, and_self, Option.some.injEq, addV, iaddV, subV, mulV, fdivV, modV, powV, negV, cmpV, isNonV, notNonV, eqV, neV, eqB, scEq, t1, t2, t3, t4, t5, t6, t7, t8, t9, t10, t11, t12, t13, t14, t15, t16, idxV, at0, at1, at2, at3, at4, at5, seqAt, lstAt, lenV, isiV, typV, kb1, kb2, kb3, kb4, kb5, kb6, kb7, kb8, kb9, kb10, kb11, Tr.knots, Bool.not_false]; rfl
    | name i => refine run_rt0 ?_ rfl; simp only [b_knots, Tr.pv, seqS, ifS, setS, augS, dropS, retS, retN, nxS, bkS, ctS, asgS, subS, R.toS, R.bind, R.of, opF, unF, varF, cstF, chF, isB, asB, andT, orT, notT, andF, orF, notF, ifF, nilA, consA, tupF, lstF, cbF, callF, bmF', truT, truV, nameG, nilG, consG, tupG, List.set_cons_zero, List.set_cons_succ, List.getElem?_cons_zero, List.getElem?_cons_succ, Option.bind_some, Option.bind_none, Option.map_some, Option.map_none, List.length_cons, List.length_nil, List.cons_append, List.nil_append, List.append_nil, if_true, if_false, ite_true, ite_false, Bool.false_eq_true, reduceIte, reduceCtorEq, List.map_cons, List.map_nil, Nat.sub_self, List.replicate_succ, List.replicate_zero, Nat.reduceSub, Nat.reduceAdd, Nat.reduceLT, Nat.reduceLeDiff, Nat.reduceEqDiff, Nat.reduceMul, Nat.reducePow, Int.reduceLT, Int.reduceLE, Int.reduceAdd, Int.reduceMul, Int.reduceSub, Int.reduceNeg, Int.reduceEq, Int.reducePow, Int.reduceMod, Int.reduceDiv, Int.reduceToNat, decide_true, decide_false, and_true, true_and, and_self, Option.some.injEq, addV, iaddV, subV, mulV, fdivV, modV, powV, negV, cmpV, isNonV, notNonV, eqV, neV, eqB, scEq, t1, t2, t3, t4, t5, t6, t7, t8, t9, t10, t11, t12, t13, t14, t15, t16, idxV, at0, at1, at2, at3, at4, at5, seqAt, lstAt, lenV, isiV, typV, kb1, kb2, kb3, kb4, kb5, kb6, kb7, kb8, kb9, kb10, kb11, Tr.knots, Bool.not_false]; rfl
    | any i => refine run_rt0 ?_ rfl; simp only [b_knots, Tr.pv, seqS, ifS, setS, augS, dropS, retS, retN, nxS, bkS, ctS, asgS, subS, R.toS, R.bind, R.of, opF, unF, varF, cstF, chF, isB, asB, andT, orT, notT, andF, orF, notF, ifF, nilA, consA, tupF, lstF, cbF, callF, bmF', truT, truV, nameG, nilG, consG, tupG, List.set_cons_zero, List.set_cons_succ, List.getElem?_cons_zero, List.getElem?_cons_succ, Option.bind_some, Option.bind_none, Option.map_some, Option.map_none, List.length_cons, List.length_nil, List.cons_append, List.nil_append, List.append_nil, if_true, if_false, ite_true, ite_false, Bool.false_eq_true, reduceIte, reduceCtorEq, List.map_cons, List.map_nil, Nat.sub_self, List.replicate_succ, List.replicate_zero, Nat.reduceSub, Nat.reduceAdd, Nat.reduceLT, Nat.reduceLeDiff, Nat.reduceEqDiff, Nat.reduceMul, Nat.reducePow, Int.reduceLT, Int.reduceLE, Int.reduceAdd, Int.reduceMul, Int.reduceSub, Int.reduceNeg, Int.reduceEq, Int.reducePow, Int.reduceMod, Int.reduceDiv, Int.reduceToNat, decide_true, decide_false, and_true, true_and, and_self, Option.some.injEq, addV, iaddV, subV, mulV, fdivV, modV, powV, negV, cmpV, isNonV, notNonV, eqV, neV, eqB, scEq, t1, t2, t3, t4, t5, t6, t7, t8, t9, t10, t11, t12, t13, t14, t15, t16, idxV, at0, at1, at2, at3, at4, at5, seqAt, lstAt, lenV, isiV, typV, kb1, kb2, kb3, kb4, kb5, kb6, kb7, kb8, kb9, kb10, kb11, Tr.knots, Bool.not_false]; rfl
    | of w as =>
      obtain ⟨o1, o2, o3⟩ := okL_ne hok
      simp only [Tr.depth] at h
      refine run_rt (g := [.lst (as.map fun a => .int (a.knots : Nat))]) ?_ rfl
      have hl := lcT (i := 0) (k := 1) (fi := opF idxV (varF 0) (cstF (.int 2))) (fe := b_knots_e1 (F_knots n)) (e := [some (Tr.of w as).pv, none]) (s := st) as Tr.pv (fun a => .int (a.knots : Nat)) (by simp only [Tr.pv, pvs_map, seqS, ifS, setS, augS, dropS, retS, retN, nxS, bkS, ctS, asgS, subS, R.toS, R.bind, R.of, opF, unF, varF, cstF, chF, isB, asB, andT, orT, notT, andF, orF, notF, ifF, nilA, consA, tupF, lstF, cbF, callF, bmF', truT, truV, nameG, nilG, consG, tupG, List.set_cons_zero, List.set_cons_succ, List.getElem?_cons_zero, List.getElem?_cons_succ, Option.bind_some, Option.bind_none, Option.map_some, Option.map_none, List.length_cons, List.length_nil, List.cons_append, List.nil_append, List.append_nil, if_true, if_false, ite_true, ite_false, Bool.false_eq_true, reduceIte, reduceCtorEq, List.map_cons, List.map_nil, Nat.sub_self, List.replicate_succ, List.replicate_zero, Nat.reduceSub, Nat.reduceAdd, Nat.reduceLT, Nat.reduceLeDiff, Nat.reduceEqDiff, Nat.reduceMul, Nat.reducePow, Int.reduceLT, Int.reduceLE, Int.reduceAdd, Int.reduceMul, Int.reduceSub, Int.reduceNeg, Int.reduceEq, Int.reducePow, Int.reduceMod, Int.reduceDiv, Int.reduceToNat, decide_true, decide_false, and_true, true_and, and_self, Option.some.injEq, idxV, at0, at1, at2, at3, at4, at5, seqAt, lstAt, lenV, isiV, typV, kb1, kb2, kb3, kb4, kb5, kb6, kb7, kb8, kb9, kb10, kb11]) (by omega) (fun a ha acc => by
        simp only [b_knots_e1, wipeE, seqS, ifS, setS, augS, dropS, retS, retN, nxS, bkS, ctS, asgS, subS, R.toS, R.bind, R.of, opF, unF, varF, cstF, chF, isB, asB, andT, orT, notT, andF, orF, notF, ifF, nilA, consA, tupF, lstF, cbF, callF, bmF', truT, truV, nameG, nilG, consG, tupG, List.set_cons_zero, List.set_cons_succ, List.getElem?_cons_zero, List.getElem?_cons_succ, Option.bind_some, Option.bind_none, Option.map_some, Option.map_none, List.length_cons, List.length_nil, List.cons_append, List.nil_append, List.append_nil, if_true, if_false, ite_true, ite_false, Bool.false_eq_true, reduceIte, reduceCtorEq, List.map_cons, List.map_nil, Nat.sub_self, List.replicate_succ, List.replicate_zero, Nat.reduceSub, Nat.reduceAdd, Nat.reduceLT, Nat.reduceLeDiff, Nat.reduceEqDiff, Nat.reduceMul, Nat.reducePow, Int.reduceLT, Int.reduceLE, Int.reduceAdd, Int.reduceMul, Int.reduceSub, Int.reduceNeg, Int.reduceEq, Int.reducePow, Int.reduceMod, Int.reduceDiv, Int.reduceToNat, decide_true, decide_false, and_true, true_and, and_self, Option.some.injEq, ih a _ (Nat.le_trans (depthL_le ha) (by omega)) (okL_mem o3 ha)])
      simp only [Tr.pv] at hl
      have e : (as.map fun a => ((a.knots : Nat) : Int)).sum = ((knotsL as : Nat) : Int) := by rw [knotsL_eq, ← sum_nat, List.map_map]; rfl
      simp only [b_knots, Tr.pv, seqS, ifS, setS, augS, dropS, retS, retN, nxS, bkS, ctS, asgS, subS, R.toS, R.bind, R.of, opF, unF, varF, cstF, chF, isB, asB, andT, orT, notT, andF, orF, notF, ifF, nilA, consA, tupF, lstF, cbF, callF, bmF', truT, truV, nameG, nilG, consG, tupG, List.set_cons_zero, List.set_cons_succ, List.getElem?_cons_zero, List.getElem?_cons_succ, Option.bind_some, Option.bind_none, Option.map_some, Option.map_none, List.length_cons, List.length_nil, List.cons_append, List.nil_append, List.append_nil, if_true, if_false, ite_true, ite_false, Bool.false_eq_true, reduceIte, reduceCtorEq, List.map_cons, List.map_nil, Nat.sub_self, List.replicate_succ, List.replicate_zero, Nat.reduceSub, Nat.reduceAdd, Nat.reduceLT, Nat.reduceLeDiff, Nat.reduceEqDiff, Nat.reduceMul, Nat.reducePow, Int.reduceLT, Int.reduceLE, Int.reduceAdd, Int.reduceMul, Int.reduceSub, Int.reduceNeg, Int.reduceEq, Int.reducePow, Int.reduceMod, Int.reduceDiv, Int.reduceToNat, decide_true, decide_false, and_true, true_and, and_self, Option.some.injEq, addV, iaddV, subV, mulV, fdivV, modV, powV, negV, cmpV, isNonV, notNonV, eqV, neV, eqB, scEq, t1, t2, t3, t4, t5, t6, t7, t8, t9, t10, t11, t12, t13, t14, t15, t16, idxV, at0, at1, at2, at3, at4, at5, seqAt, lstAt, lenV, isiV, typV, kb1, kb2, kb3, kb4, kb5, kb6, kb7, kb8, kb9, kb10, kb11, Tr.knots, Bool.not_true, hl, sumV, getS0, intsOf_mapf as (fun a => ((a.knots : Nat) : Int)), e]
      simp
end
end FL
end
section
set_option linter.all false
set_option maxRecDepth 100000
namespace FL
open PySem PySem.Spec PyProof.Rows L2
noncomputable section
def b_L_whole : FS :=
    (retS (andF (cbF isiV (consA (varF 0) (consA (cstF (.ty "int")) nilA))) (andF (notF (cbF isiV (consA (varF 0) (consA (cstF (.ty "bool")) nilA)))) (opF eqV (varF 0) (varF 1)))))
def F_L_whole : Fn := runFn 2 b_L_whole
end
end FL
end
section
set_option linter.all false
set_option maxRecDepth 100000
namespace FL
open PySem PySem.Spec PyProof.Rows L2
noncomputable section
/-! ## what the laws draw by -/
def mixed1 (c k : Int) : Int := (c % 2147483647 + 1) * (48271 + 2 * k * k) % 2147483647
def mixed (c k : Int) : Int := mixed1 c k * mixed1 c k % 2147483629
theorem mixed1_lt (c k : Int) : 0 ≤ mixed1 c k ∧ mixed1 c k < 2147483647 := by
  unfold mixed1
  exact ⟨Int.emod_nonneg _ (by decide), Int.emod_lt_of_pos _ (by decide)⟩
theorem mixed_lt (c k : Int) : 0 ≤ mixed c k ∧ mixed c k < 2147483629 := by
  unfold mixed
  exact ⟨Int.emod_nonneg _ (by decide), Int.emod_lt_of_pos _ (by decide)⟩
theorem mul_nb {i j : Int} {a b : Nat} (hi : i.natAbs ≤ a) (hj : j.natAbs ≤ b) : (i * j).natAbs ≤ a * b := by
  rw [Int.natAbs_mul]
  exact Nat.mul_le_mul hi hj
theorem mulOk_le {i j : Int} (a b : Nat) (hi : i.natAbs ≤ a) (hj : j.natAbs ≤ b) (ha : a < 2 ^ 250) (hb : b < 2 ^ 250) : mulOk i j = true := mulOk_of (Nat.lt_of_le_of_lt hi ha) (Nat.lt_of_le_of_lt hj hb)
theorem F_mixed {c k : Int} {st : Store} (h0 : 0 ≤ k) (h1 : k ≤ 1000000) : F_L_mixed [.int c, .int k] st = .ok (.int (mixed c k)) st := by
  have m1 : mulOk 2 k = true := mulOk_le 2 1000000 (by decide) (by omega) (by decide) (by decide)
  have m2 : mulOk (2 * k) k = true := mulOk_le 2000000 1000000 (by omega) (by omega) (by decide) (by decide)
  have b3 : (2 * k * k).natAbs ≤ 2000000 * 1000000 := mul_nb (by omega) (by omega)
  have m3 : mulOk (c % 2147483647 + 1) (48271 + 2 * k * k) = true := mulOk_le 2147483647 (48271 + 2000000 * 1000000) (by omega) (by omega) (by decide) (by decide)
  have q := mixed1_lt c k
  have m4 : mulOk (mixed1 c k) (mixed1 c k) = true := mulOk_le 2147483647 2147483647 (by omega) (by omega) (by decide) (by decide)
  unfold mixed1 at m4
  unfold F_L_mixed
  refine run_rt0 ?_ rfl
  simp only [b_L_mixed, seqS, ifS, setS, augS, dropS, retS, retN, nxS, bkS, ctS, asgS, subS, R.toS, R.bind, R.of, opF, unF, varF, cstF, chF, isB, asB, andT, orT, notT, andF, orF, notF, ifF, nilA, consA, tupF, lstF, cbF, callF, bmF', truT, truV, nameG, nilG, consG, tupG, List.set_cons_zero, List.set_cons_succ, List.getElem?_cons_zero, List.getElem?_cons_succ, Option.bind_some, Option.bind_none, Option.map_some, Option.map_none, List.length_cons, List.length_nil, List.cons_append, List.nil_append, List.append_nil, if_true, if_false, ite_true, ite_false, Bool.false_eq_true, reduceIte, reduceCtorEq, List.map_cons, List.map_nil, Nat.sub_self, List.replicate_succ, List.replicate_zero, Nat.reduceSub, Nat.reduceAdd, Nat.reduceLT, Nat.reduceLeDiff, Nat.reduceEqDiff, Nat.reduceMul, Nat.reducePow, Int.reduceLT, Int.reduceLE, Int.reduceAdd, Int.reduceMul, Int.reduceSub, Int.reduceNeg, Int.reduceEq, Int.reducePow, Int.reduceMod, Int.reduceDiv, Int.reduceToNat, decide_true, decide_false, and_true, true_and, and_self, Option.some.injEq, addV, iaddV, subV, mulV, fdivV, modV, powV, negV, cmpV, isNonV, notNonV, m1, m2, m3, m4]
  rfl
def cellAt (ns : List Int) (k : Nat) : Int := ns.getD k 0
theorem F_cell {ns : List Int} {k : Nat} {st : Store} : F_L_cell_at [.frz (ns.map PV.int), .int k] st = .ok (.int (cellAt ns k)) st := by
  unfold F_L_cell_at
  refine run_rt0 ?_ rfl
  by_cases h : k < ns.length
  · have e : decide ((k : Int) < ((ns.map PV.int).length : Nat)) = true := by simp; exact h
    simp only [b_L_cell_at, seqS, ifS, setS, augS, dropS, retS, retN, nxS, bkS, ctS, asgS, subS, R.toS, R.bind, R.of, opF, unF, varF, cstF, chF, isB, asB, andT, orT, notT, andF, orF, notF, ifF, nilA, consA, tupF, lstF, cbF, callF, bmF', truT, truV, nameG, nilG, consG, tupG, List.set_cons_zero, List.set_cons_succ, List.getElem?_cons_zero, List.getElem?_cons_succ, Option.bind_some, Option.bind_none, Option.map_some, Option.map_none, List.length_cons, List.length_nil, List.cons_append, List.nil_append, List.append_nil, if_true, if_false, ite_true, ite_false, Bool.false_eq_true, reduceIte, reduceCtorEq, List.map_cons, List.map_nil, Nat.sub_self, List.replicate_succ, List.replicate_zero, Nat.reduceSub, Nat.reduceAdd, Nat.reduceLT, Nat.reduceLeDiff, Nat.reduceEqDiff, Nat.reduceMul, Nat.reducePow, Int.reduceLT, Int.reduceLE, Int.reduceAdd, Int.reduceMul, Int.reduceSub, Int.reduceNeg, Int.reduceEq, Int.reducePow, Int.reduceMod, Int.reduceDiv, Int.reduceToNat, decide_true, decide_false, and_true, true_and, and_self, Option.some.injEq, addV, iaddV, subV, mulV, fdivV, modV, powV, negV, cmpV, isNonV, notNonV, idxV, at0, at1, at2, at3, at4, at5, seqAt, lstAt, lenV, isiV, typV, kb1, kb2, kb3, kb4, kb5, kb6, kb7, kb8, kb9, kb10, kb11, e, atI_lt (xs := ns.map PV.int) (i := (k : Int)) (by omega) (by simpa using h)]
    simp [cellAt, List.getD_eq_getElem?_getD, List.getElem?_eq_getElem h]
  · have e : decide ((k : Int) < ((ns.map PV.int).length : Nat)) = false := by simp; omega
    simp only [b_L_cell_at, seqS, ifS, setS, augS, dropS, retS, retN, nxS, bkS, ctS, asgS, subS, R.toS, R.bind, R.of, opF, unF, varF, cstF, chF, isB, asB, andT, orT, notT, andF, orF, notF, ifF, nilA, consA, tupF, lstF, cbF, callF, bmF', truT, truV, nameG, nilG, consG, tupG, List.set_cons_zero, List.set_cons_succ, List.getElem?_cons_zero, List.getElem?_cons_succ, Option.bind_some, Option.bind_none, Option.map_some, Option.map_none, List.length_cons, List.length_nil, List.cons_append, List.nil_append, List.append_nil, if_true, if_false, ite_true, ite_false, Bool.false_eq_true, reduceIte, reduceCtorEq, List.map_cons, List.map_nil, Nat.sub_self, List.replicate_succ, List.replicate_zero, Nat.reduceSub, Nat.reduceAdd, Nat.reduceLT, Nat.reduceLeDiff, Nat.reduceEqDiff, Nat.reduceMul, Nat.reducePow, Int.reduceLT, Int.reduceLE, Int.reduceAdd, Int.reduceMul, Int.reduceSub, Int.reduceNeg, Int.reduceEq, Int.reducePow, Int.reduceMod, Int.reduceDiv, Int.reduceToNat, decide_true, decide_false, and_true, true_and, and_self, Option.some.injEq, addV, iaddV, subV, mulV, fdivV, modV, powV, negV, cmpV, isNonV, notNonV, idxV, at0, at1, at2, at3, at4, at5, seqAt, lstAt, lenV, isiV, typV, kb1, kb2, kb3, kb4, kb5, kb6, kb7, kb8, kb9, kb10, kb11, e]
    simp [cellAt, List.getD_eq_getElem?_getD, List.getElem?_eq_none (by omega : ns.length ≤ k)]
/-- a word of 1 to 8 signs -/
def wordL (m : Int) : List Nat :=
  let n := (1 + m % 8).toNat
  let a := (m / 8 % (1 + m % 8)).toNat
  List.replicate a (97 + (m / 1664 % 26).toNat) ++ [97 + (m / 64 % 26).toNat] ++ List.replicate (n - (a + 1)) (97 + (m / 1664 % 26).toNat)
def wordS (m : Int) : Str := S (wordL m)
theorem wordL_len (m : Int) : 1 ≤ (wordL m).length ∧ (wordL m).length ≤ 8 ∧ (wordL m).length = (1 + m % 8).toNat := by
  have h1 : 0 ≤ m % 8 ∧ m % 8 < 8 := ⟨Int.emod_nonneg _ (by decide), Int.emod_lt_of_pos _ (by decide)⟩
  have h2 : 0 ≤ m / 8 % (1 + m % 8) ∧ m / 8 % (1 + m % 8) < 1 + m % 8 := ⟨Int.emod_nonneg _ (by omega), Int.emod_lt_of_pos _ (by omega)⟩
  simp only [wordL, List.length_append, List.length_replicate, List.length_cons, List.length_nil]
  omega
theorem wordL_az (m : Int) : ∀ c ∈ wordL m, 97 ≤ c ∧ c < 123 := by
  have h1 : 0 ≤ m / 1664 % 26 ∧ m / 1664 % 26 < 26 := ⟨Int.emod_nonneg _ (by decide), Int.emod_lt_of_pos _ (by decide)⟩
  have h2 : 0 ≤ m / 64 % 26 ∧ m / 64 % 26 < 26 := ⟨Int.emod_nonneg _ (by decide), Int.emod_lt_of_pos _ (by decide)⟩
  intro c hc
  simp only [wordL, List.mem_append, List.mem_replicate, List.mem_singleton] at hc
  omega
theorem flat_one (n c : Nat) : (List.replicate n [c]).flatten = List.replicate n c := by
  induction n with
  | zero => rfl
  | succ n ih => rw [List.replicate_succ, List.flatten_cons, ih, List.replicate_succ]; rfl
theorem F_word {m : Int} {st : Store} (h0 : 0 ≤ m) : F_L_word [.int m] st = .ok (.str (wordS m)) st := by
  have h1 : 0 ≤ m % 8 ∧ m % 8 < 8 := ⟨Int.emod_nonneg _ (by decide), Int.emod_lt_of_pos _ (by decide)⟩
  have h2 : 0 ≤ m / 8 % (1 + m % 8) ∧ m / 8 % (1 + m % 8) < 1 + m % 8 := ⟨Int.emod_nonneg _ (by omega), Int.emod_lt_of_pos _ (by omega)⟩
  have h3 : 0 ≤ m / 1664 % 26 ∧ m / 1664 % 26 < 26 := ⟨Int.emod_nonneg _ (by decide), Int.emod_lt_of_pos _ (by decide)⟩
  have h4 : 0 ≤ m / 64 % 26 ∧ m / 64 % 26 < 26 := ⟨Int.emod_nonneg _ (by decide), Int.emod_lt_of_pos _ (by decide)⟩
  have l8 : Nat.log2 8 < 9000 := by decide
  have c1 : (0 < (8 : Int) ∧ (8 : Int).natAbs.log2 < 9000) := ⟨by decide, by decide⟩
  have c2 : (0 < (1664 : Int) ∧ (1664 : Int).natAbs.log2 < 9000) := ⟨by decide, by decide⟩
  have c3 : (0 < (64 : Int) ∧ (64 : Int).natAbs.log2 < 9000) := ⟨by decide, by decide⟩
  have c4 : (0 < 1 + m % 8) := by omega
  have c5 : 0 ≤ 1 + m % 8 ∧ 1 + m % 8 ≤ 1000 ∧ (S [97 + (m / 1664 % 26).toNat]).length ≤ 1000 := ⟨by omega, by omega, by rw [S_len]; simp⟩
  unfold F_L_word
  refine run_rt0 ?_ rfl
  have c6 : 0 ≤ 1 + m % 8 := by omega
  have c7 : (97 + (m / 1664 % 26).toNat) = 97 + (m / 1664 % 26).toNat := rfl
  have n1 : ¬ m / 8 % (1 + m % 8) < 0 := by omega
  simp only [b_L_word, seqS, ifS, setS, augS, dropS, retS, retN, nxS, bkS, ctS, asgS, subS, R.toS, R.bind, R.of, opF, unF, varF, cstF, chF, isB, asB, andT, orT, notT, andF, orF, notF, ifF, nilA, consA, tupF, lstF, cbF, callF, bmF', truT, truV, nameG, nilG, consG, tupG, List.set_cons_zero, List.set_cons_succ, List.getElem?_cons_zero, List.getElem?_cons_succ, Option.bind_some, Option.bind_none, Option.map_some, Option.map_none, List.length_cons, List.length_nil, List.cons_append, List.nil_append, List.append_nil, if_true, if_false, ite_true, ite_false, Bool.false_eq_true, reduceIte, reduceCtorEq, List.map_cons, List.map_nil, Nat.sub_self, List.replicate_succ, List.replicate_zero, Nat.reduceSub, Nat.reduceAdd, Nat.reduceLT, Nat.reduceLeDiff, Nat.reduceEqDiff, Nat.reduceMul, Nat.reducePow, Int.reduceLT, Int.reduceLE, Int.reduceAdd, Int.reduceMul, Int.reduceSub, Int.reduceNeg, Int.reduceEq, Int.reducePow, Int.reduceMod, Int.reduceDiv, Int.reduceToNat, decide_true, decide_false, and_true, true_and, and_self, Option.some.injEq, addV, iaddV, subV, mulV, fdivV, modV, powV, negV, cmpV, isNonV, notNonV, idxV, at0, at1, at2, at3, at4, at5, seqAt, lstAt, lenV, isiV, typV, kb1, kb2, kb3, kb4, kb5, kb6, kb7, kb8, kb9, kb10, kb11, sliF, noO, someO, asI, slV, cutP, c1, c2, c3, c4, letters_eq, S_cps, S_len, List.length_map, List.length_range, sizeLine_eq, letters_at h3.1 h3.2, letters_at h4.1 h4.2, S_one, S_mul _ _ c6, flat_one, List.length_replicate, S_cut, HT.sIx_none, sIx_some h2.1, sIx_some (show 0 ≤ m / 8 % (1 + m % 8) + 1 by omega), S_app, List.length_append, List.length_take, List.length_drop, c5, if_pos (show (1 + m % 8).toNat ≤ 16777216 by omega), List.drop_zero, List.take_replicate, List.drop_replicate]
  rw [if_pos (by omega)]
  simp only [S_app, S_len, List.length_append, List.length_replicate, List.length_cons, List.length_nil]
  rw [if_pos (by omega)]
  simp only [S_app]
  congr 3
  unfold wordL
  congr 2
  · congr 1
    omega
  · congr 1
    omega
/-- a number -/
def MOST : Int := 10 ^ 60 - 1
def numberI (c m : Int) : Int :=
  if m % 4 = 0 then c % 19 - 9
  else if m % 4 = 1 then m ^ 11 % (2 * MOST + 1) - MOST
  else if m % 4 = 2 then c % (2 * MOST + 1) - MOST
  else [MOST, -MOST, 10 ^ 59, -10 ^ 59, 10, 0].getD (m / 4 % 6).toNat 0
theorem F_number {c m : Int} {st : Store} (h0 : 0 ≤ m) (h1 : m < 2 ^ 64) : F_L_number [.int c, .int m] st = .ok (.int (numberI c m)) st := by
  have h2 : 0 ≤ m % 4 ∧ m % 4 < 4 := ⟨Int.emod_nonneg _ (by decide), Int.emod_lt_of_pos _ (by decide)⟩
  have h3 : 0 ≤ m / 4 % 6 ∧ m / 4 % 6 < 6 := ⟨Int.emod_nonneg _ (by decide), Int.emod_lt_of_pos _ (by decide)⟩
  have c1 : ((0 : Int) ≤ 60 ∧ (60 : Int) ≤ 1000000 ∧ (10 : Int).natAbs < 2 ^ 64) := by decide
  have c2 : ((0 : Int) ≤ 59 ∧ (59 : Int) ≤ 1000000 ∧ (10 : Int).natAbs < 2 ^ 64) := by decide
  have c3 : ((0 : Int) ≤ 11 ∧ (11 : Int) ≤ 1000000 ∧ m.natAbs < 2 ^ 64) := ⟨by decide, by decide, by omega⟩
  have c4 : mulOk 2 (10 ^ (60 : Int).toNat - 1) = true := by decide +kernel
  have c5 : (0 < (4 : Int) ∧ (4 : Int).natAbs.log2 < 9000) := by decide
  have c6 : (0 : Int) < 2 * (10 ^ (60 : Int).toNat - 1) + 1 := by decide
  unfold F_L_number numberI
  by_cases e0 : m % 4 = 0
  · refine run_rt0 ?_ rfl
    simp only [b_L_number, seqS, ifS, setS, augS, dropS, retS, retN, nxS, bkS, ctS, asgS, subS, R.toS, R.bind, R.of, opF, unF, varF, cstF, chF, isB, asB, andT, orT, notT, andF, orF, notF, ifF, nilA, consA, tupF, lstF, cbF, callF, bmF', truT, truV, nameG, nilG, consG, tupG, List.set_cons_zero, List.set_cons_succ, List.getElem?_cons_zero, List.getElem?_cons_succ, Option.bind_some, Option.bind_none, Option.map_some, Option.map_none, List.length_cons, List.length_nil, List.cons_append, List.nil_append, List.append_nil, if_true, if_false, ite_true, ite_false, Bool.false_eq_true, reduceIte, reduceCtorEq, List.map_cons, List.map_nil, Nat.sub_self, List.replicate_succ, List.replicate_zero, Nat.reduceSub, Nat.reduceAdd, Nat.reduceLT, Nat.reduceLeDiff, Nat.reduceEqDiff, Nat.reduceMul, Nat.reducePow, Int.reduceLT, Int.reduceLE, Int.reduceAdd, Int.reduceMul, Int.reduceSub, Int.reduceNeg, Int.reduceEq, Int.reducePow, Int.reduceMod, Int.reduceDiv, Int.reduceToNat, decide_true, decide_false, and_true, true_and, and_self, Option.some.injEq, addV, iaddV, subV, mulV, fdivV, modV, powV, negV, cmpV, isNonV, notNonV, eqV, neV, eqB, scEq, t1, t2, t3, t4, t5, t6, t7, t8, t9, t10, t11, t12, t13, t14, t15, t16, c1, e0]
  by_cases e1 : m % 4 = 1
  · refine run_rt0 ?_ rfl
    simp only [b_L_number, seqS, ifS, setS, augS, dropS, retS, retN, nxS, bkS, ctS, asgS, subS, R.toS, R.bind, R.of, opF, unF, varF, cstF, chF, isB, asB, andT, orT, notT, andF, orF, notF, ifF, nilA, consA, tupF, lstF, cbF, callF, bmF', truT, truV, nameG, nilG, consG, tupG, List.set_cons_zero, List.set_cons_succ, List.getElem?_cons_zero, List.getElem?_cons_succ, Option.bind_some, Option.bind_none, Option.map_some, Option.map_none, List.length_cons, List.length_nil, List.cons_append, List.nil_append, List.append_nil, if_true, if_false, ite_true, ite_false, Bool.false_eq_true, reduceIte, reduceCtorEq, List.map_cons, List.map_nil, Nat.sub_self, List.replicate_succ, List.replicate_zero, Nat.reduceSub, Nat.reduceAdd, Nat.reduceLT, Nat.reduceLeDiff, Nat.reduceEqDiff, Nat.reduceMul, Nat.reducePow, Int.reduceLT, Int.reduceLE, Int.reduceAdd, Int.reduceMul, Int.reduceSub, Int.reduceNeg, Int.reduceEq, Int.reducePow, Int.reduceMod, Int.reduceDiv, Int.reduceToNat, decide_true, decide_false, and_true, true_and, and_self, Option.some.injEq, addV, iaddV, subV, mulV, fdivV, modV, powV, negV, cmpV, isNonV, notNonV, eqV, neV, eqB, scEq, t1, t2, t3, t4, t5, t6, t7, t8, t9, t10, t11, t12, t13, t14, t15, t16, c1, e1, c3, c4, c6]
    rfl
  by_cases e2 : m % 4 = 2
  · refine run_rt0 ?_ rfl
    simp only [b_L_number, seqS, ifS, setS, augS, dropS, retS, retN, nxS, bkS, ctS, asgS, subS, R.toS, R.bind, R.of, opF, unF, varF, cstF, chF, isB, asB, andT, orT, notT, andF, orF, notF, ifF, nilA, consA, tupF, lstF, cbF, callF, bmF', truT, truV, nameG, nilG, consG, tupG, List.set_cons_zero, List.set_cons_succ, List.getElem?_cons_zero, List.getElem?_cons_succ, Option.bind_some, Option.bind_none, Option.map_some, Option.map_none, List.length_cons, List.length_nil, List.cons_append, List.nil_append, List.append_nil, if_true, if_false, ite_true, ite_false, Bool.false_eq_true, reduceIte, reduceCtorEq, List.map_cons, List.map_nil, Nat.sub_self, List.replicate_succ, List.replicate_zero, Nat.reduceSub, Nat.reduceAdd, Nat.reduceLT, Nat.reduceLeDiff, Nat.reduceEqDiff, Nat.reduceMul, Nat.reducePow, Int.reduceLT, Int.reduceLE, Int.reduceAdd, Int.reduceMul, Int.reduceSub, Int.reduceNeg, Int.reduceEq, Int.reducePow, Int.reduceMod, Int.reduceDiv, Int.reduceToNat, decide_true, decide_false, and_true, true_and, and_self, Option.some.injEq, addV, iaddV, subV, mulV, fdivV, modV, powV, negV, cmpV, isNonV, notNonV, eqV, neV, eqB, scEq, t1, t2, t3, t4, t5, t6, t7, t8, t9, t10, t11, t12, t13, t14, t15, t16, c1, e2, c4, c6]
    rfl
  · have e3 : m % 4 = 3 := by omega
    refine run_rt (g := [.lst [.int MOST, .int (-MOST), .int (10 ^ 59), .int (-10 ^ 59), .int 10, .int 0]]) ?_ rfl
    have e6 : m / 4 % 6 = 0 ∨ m / 4 % 6 = 1 ∨ m / 4 % 6 = 2 ∨ m / 4 % 6 = 3 ∨ m / 4 % 6 = 4 ∨ m / 4 % 6 = 5 := by omega
    rcases e6 with e | e | e | e | e | e <;>
      (simp only [b_L_number, seqS, ifS, setS, augS, dropS, retS, retN, nxS, bkS, ctS, asgS, subS, R.toS, R.bind, R.of, opF, unF, varF, cstF, chF, isB, asB, andT, orT, notT, andF, orF, notF, ifF, nilA, consA, tupF, lstF, cbF, callF, bmF', truT, truV, nameG, nilG, consG, tupG, List.set_cons_zero, List.set_cons_succ, List.getElem?_cons_zero, List.getElem?_cons_succ, Option.bind_some, Option.bind_none, Option.map_some, Option.map_none, List.length_cons, List.length_nil, List.cons_append, List.nil_append, List.append_nil, if_true, if_false, ite_true, ite_false, Bool.false_eq_true, reduceIte, reduceCtorEq, List.map_cons, List.map_nil, Nat.sub_self, List.replicate_succ, List.replicate_zero, Nat.reduceSub, Nat.reduceAdd, Nat.reduceLT, Nat.reduceLeDiff, Nat.reduceEqDiff, Nat.reduceMul, Nat.reducePow, Int.reduceLT, Int.reduceLE, Int.reduceAdd, Int.reduceMul, Int.reduceSub, Int.reduceNeg, Int.reduceEq, Int.reducePow, Int.reduceMod, Int.reduceDiv, Int.reduceToNat, decide_true, decide_false, and_true, true_and, and_self, Option.some.injEq, addV, iaddV, subV, mulV, fdivV, modV, powV, negV, cmpV, isNonV, notNonV, eqV, neV, eqB, scEq, t1, t2, t3, t4, t5, t6, t7, t8, t9, t10, t11, t12, t13, t14, t15, t16, idxV, at0, at1, at2, at3, at4, at5, seqAt, lstAt, lenV, isiV, typV, kb1, kb2, kb3, kb4, kb5, kb6, kb7, kb8, kb9, kb10, kb11, c1, c2, e3, c4, c5, c6, sizeLine_eq, getS0, e]; rfl)
/-- the whole numbers' look -/
theorem F_whole {a b : Int} {st : Store} : F_L_whole [.int a, .int b] st = .ok (.bl (decide (a = b))) st := by
  unfold F_L_whole
  refine run_rt0 ?_ rfl
  simp only [b_L_whole, seqS, ifS, setS, augS, dropS, retS, retN, nxS, bkS, ctS, asgS, subS, R.toS, R.bind, R.of, opF, unF, varF, cstF, chF, isB, asB, andT, orT, notT, andF, orF, notF, ifF, nilA, consA, tupF, lstF, cbF, callF, bmF', truT, truV, nameG, nilG, consG, tupG, List.set_cons_zero, List.set_cons_succ, List.getElem?_cons_zero, List.getElem?_cons_succ, Option.bind_some, Option.bind_none, Option.map_some, Option.map_none, List.length_cons, List.length_nil, List.cons_append, List.nil_append, List.append_nil, if_true, if_false, ite_true, ite_false, Bool.false_eq_true, reduceIte, reduceCtorEq, List.map_cons, List.map_nil, Nat.sub_self, List.replicate_succ, List.replicate_zero, Nat.reduceSub, Nat.reduceAdd, Nat.reduceLT, Nat.reduceLeDiff, Nat.reduceEqDiff, Nat.reduceMul, Nat.reducePow, Int.reduceLT, Int.reduceLE, Int.reduceAdd, Int.reduceMul, Int.reduceSub, Int.reduceNeg, Int.reduceEq, Int.reducePow, Int.reduceMod, Int.reduceDiv, Int.reduceToNat, decide_true, decide_false, and_true, true_and, and_self, Option.some.injEq, addV, iaddV, subV, mulV, fdivV, modV, powV, negV, cmpV, isNonV, notNonV, eqV, neV, eqB, scEq, t1, t2, t3, t4, t5, t6, t7, t8, t9, t10, t11, t12, t13, t14, t15, t16, idxV, at0, at1, at2, at3, at4, at5, seqAt, lstAt, lenV, isiV, typV, kb1, kb2, kb3, kb4, kb5, kb6, kb7, kb8, kb9, kb10, kb11, Bool.not_false]
theorem numberI_lt (c m : Int) (h0 : 0 ≤ m) : -(10 ^ 60) < numberI c m ∧ numberI c m < 10 ^ 60 := by
  have hM : MOST = 10 ^ 60 - 1 := rfl
  have h3 : 0 ≤ m / 4 % 6 ∧ m / 4 % 6 < 6 := ⟨Int.emod_nonneg _ (by decide), Int.emod_lt_of_pos _ (by decide)⟩
  unfold numberI
  split
  · have : 0 ≤ c % 19 ∧ c % 19 < 19 := ⟨Int.emod_nonneg _ (by decide), Int.emod_lt_of_pos _ (by decide)⟩
    omega
  split
  · have : 0 ≤ m ^ 11 % (2 * MOST + 1) ∧ m ^ 11 % (2 * MOST + 1) < 2 * MOST + 1 := ⟨Int.emod_nonneg _ (by decide), Int.emod_lt_of_pos _ (by decide)⟩
    omega
  split
  · have : 0 ≤ c % (2 * MOST + 1) ∧ c % (2 * MOST + 1) < 2 * MOST + 1 := ⟨Int.emod_nonneg _ (by decide), Int.emod_lt_of_pos _ (by decide)⟩
    omega
  · have e6 : m / 4 % 6 = 0 ∨ m / 4 % 6 = 1 ∨ m / 4 % 6 = 2 ∨ m / 4 % 6 = 3 ∨ m / 4 % 6 = 4 ∨ m / 4 % 6 = 5 := by omega
    rcases e6 with e | e | e | e | e | e <;> rw [e] <;> decide
end
end FL
end
section
set_option linter.all false
set_option maxRecDepth 100000
namespace FL
open PySem PySem.Spec PyProof.Rows L2
noncomputable section
namespace Ho
/-! ## the holes of a pattern, each once -/
def addW (acc : List Str) (x : Str) : List Str := if x ∈ acc then acc else acc ++ [x]
mutual
def hol : Tr → List Str
  | .any x => [x]
  | .of _ as => holF as []
  | _ => []
def holF : List Tr → List Str → List Str
  | [], acc => acc
  | t :: r, acc => holF r ((hol t).foldl addW acc)
end
theorem holF_app (a b : List Tr) (acc : List Str) : holF (a ++ b) acc = holF b (holF a acc) := by
  induction a generalizing acc with
  | nil => rfl
  | cons t r ih => rw [List.cons_append, holF, ih, holF]
theorem addW_len (acc : List Str) (x : Str) : (addW acc x).length ≤ acc.length + 1 := by
  unfold addW
  split
  · omega
  · simp
theorem foldW_len (l : List Str) (acc : List Str) : (l.foldl addW acc).length ≤ acc.length + l.length := by
  induction l generalizing acc with
  | nil => simp
  | cons x r ih =>
    have := ih (addW acc x)
    have := addW_len acc x
    rw [List.foldl_cons, List.length_cons]
    omega
/-- distinct words out of a pool -/
theorem addW_sub {pw acc : List Str} {x : Str} (h : ∀ y ∈ acc, y ∈ pw) (hx : x ∈ pw) : ∀ y ∈ addW acc x, y ∈ pw := by
  intro y hy
  unfold addW at hy
  split at hy
  · exact h y hy
  · rcases List.mem_append.mp hy with q | q
    · exact h y q
    · rw [List.mem_singleton] at q; rw [q]; exact hx
theorem addW_nd {acc : List Str} {x : Str} (h : acc.Nodup) : (addW acc x).Nodup := by
  unfold addW
  split
  · exact h
  · rename_i hx
    rw [List.nodup_append]
    exact ⟨h, by simp, fun a ha b hb => by rw [List.mem_singleton] at hb; rw [hb]; intro q; rw [q] at ha; exact hx ha⟩
theorem foldW_ok {pw : List Str} {l acc : List Str} (h : acc.Nodup ∧ ∀ y ∈ acc, y ∈ pw) (hl : ∀ y ∈ l, y ∈ pw) : (l.foldl addW acc).Nodup ∧ ∀ y ∈ l.foldl addW acc, y ∈ pw := by
  induction l generalizing acc with
  | nil => exact h
  | cons x r ih =>
    rw [List.foldl_cons]
    exact ih ⟨addW_nd h.1, addW_sub h.2 (hl x List.mem_cons_self)⟩ fun y hy => hl y (List.mem_cons_of_mem _ hy)
theorem nd_len {pw acc : List Str} (h : acc.Nodup) (hs : ∀ y ∈ acc, y ∈ pw) : acc.length ≤ pw.length := by
  induction acc generalizing pw with
  | nil => exact Nat.zero_le _
  | cons x r ih =>
    have hx := hs x List.mem_cons_self
    have := ih (pw := pw.erase x) (List.nodup_cons.mp h).2 fun y hy => by
      have hne : y ≠ x := fun q => (List.nodup_cons.mp h).1 (by rw [← q]; exact hy)
      exact (List.mem_erase_of_ne hne).mpr (hs y (List.mem_cons_of_mem _ hy))
    rw [List.length_erase_of_mem hx] at this
    have hp : 0 < pw.length := List.length_pos_of_mem hx
    rw [List.length_cons]
    omega
mutual
/-- holes out of a pool -/
def ofP (pw : List Str) : Tr → Prop
  | .any x => x ∈ pw
  | .of _ as => ofPL pw as
  | _ => True
def ofPL (pw : List Str) : List Tr → Prop
  | [] => True
  | t :: r => ofP pw t ∧ ofPL pw r
end
theorem ofPL_iff {pw : List Str} {as : List Tr} : ofPL pw as ↔ ∀ t ∈ as, ofP pw t := by
  induction as with
  | nil => simp [ofPL]
  | cons a r ih => simp [ofPL, ih]
mutual
theorem hol_ok {pw : List Str} : ∀ t : Tr, ofP pw t → (hol t).Nodup ∧ ∀ y ∈ hol t, y ∈ pw
  | .num _, _ => by simp [hol]
  | .name _, _ => by simp [hol]
  | .any x, h => by
    have h' : x ∈ pw := by simpa only [ofP] using h
    simp only [hol]
    exact ⟨by simp, fun y hy => by rw [List.mem_singleton] at hy; rw [hy]; exact h'⟩
  | .of w as, h => by
    simp only [hol]
    exact holF_ok as [] (by simpa only [ofP] using h) ⟨by simp, fun y hy => by cases hy⟩
theorem holF_ok {pw : List Str} : ∀ (as : List Tr) (acc : List Str), ofPL pw as → (acc.Nodup ∧ ∀ y ∈ acc, y ∈ pw) → (holF as acc).Nodup ∧ ∀ y ∈ holF as acc, y ∈ pw
  | [], acc, _, h => by simpa only [holF] using h
  | t :: r, acc, hp, h => by
    have hp' : ofP pw t ∧ ofPL pw r := by simpa only [ofPL] using hp
    simp only [holF]
    exact holF_ok r _ hp'.2 (foldW_ok h (hol_ok t hp'.1).2)
end
theorem any_words (x : Str) : ∀ acc : List Str, ((acc.map PV.str).any fun y => eqP y (.str x)) = decide (x ∈ acc)
  | [] => rfl
  | y :: r => by
    rw [List.map_cons, List.any_cons, any_words x r]
    have : eqP (.str y) (.str x) = decide (x = y) := by
      show (y == x) = _
      by_cases h : x = y
      · subst h; simp
      · rw [decide_eq_false h]
        exact beq_eq_false_iff_ne.mpr fun q => h q.symm
    rw [this]
    simp only [List.mem_cons, Bool.decide_or]
theorem inB_words {x : Str} {W : Nat} {acc : List Str} {s : Store} (h : s[W]? = some (.lst (acc.map PV.str))) : inB (.str x) (.ref W) s = some (decide (x ∈ acc)) := by
  have f : (acc.map PV.str).all flatP = true := by
    rw [List.all_map, List.all_eq_true]
    intro y _
    rfl
  have e := any_words x acc
  simp only [inB, seqAt, lstAt, h, flatP, f, and_self, if_true, e]
theorem set_same {s : Store} {W : Nat} {o : PO} (h : s[W]? = some o) : s.set W o = s := by
  apply List.ext_getElem?
  intro i
  by_cases hi : W = i
  · subst hi
    rw [List.getElem?_set_self (List.getElem?_eq_some_iff.mp h).1, h]
  · rw [List.getElem?_set_ne hi]
theorem set_at {s : Store} {W : Nat} {o o' : PO} (h : s[W]? = some o) : (s.set W o')[W]? = some o' := List.getElem?_set_self (List.getElem?_eq_some_iff.mp h).1
/-- the inner loop: each word that is not there is put at the end -/
theorem inner {gd : List (Nat × PO)} {i : Nat} {b : FS} {W : Nat} {e : Env} {s : Store} (hs acc : List Str) (hi : i < e.length) (hW : s[W]? = some (.lst (acc.map PV.str))) (hg : ∀ o, GdOk gd (s.set W o)) (hl : acc.length + hs.length ≤ 10000)
    (hb : ∀ (x : Str) (acc' : List Str) (v : Option PV), acc'.length ≤ 10000 → b ((e.set i v).set i (some (.str x))) (s.set W (.lst (acc'.map PV.str))) = .nx (e.set i (some (.str x))) (s.set W (.lst ((addW acc' x).map PV.str)))) :
    ∃ v, forL gd (nameG i) b (hs.map PV.str) e s = .nx (e.set i v) (s.set W (.lst ((hs.foldl addW acc).map PV.str))) := by
  obtain ⟨e', st', h1, ⟨v, rfl, rfl⟩⟩ := forL_inv (gd := gd) (g := nameG i) (b := b) (xs := hs.map PV.str)
    (fun k e' s' => ∃ v, e' = e.set i v ∧ s' = s.set W (.lst (((hs.take k).foldl addW acc).map PV.str))) (e := e) (st := s)
    ⟨e[i], (List.set_getElem_self hi).symm, (set_same hW).symm⟩
    (fun k x e' s' hx hP => by
      obtain ⟨v, rfl, rfl⟩ := hP
      rw [List.getElem?_map] at hx
      obtain ⟨y, hy, rfl⟩ := Option.map_eq_some_iff.mp hx
      refine ⟨hg _, _, rfl, _, _, hb y _ v ?_, some (.str y), rfl, ?_⟩
      · have := foldW_len (hs.take k) acc
        have : (hs.take k).length ≤ hs.length := by rw [List.length_take]; omega
        omega
      · rw [List.take_add_one, hy, Option.toList_some, List.foldl_append]
        rfl) (fun e' s' hP => by
      obtain ⟨v, rfl, rfl⟩ := hP
      exact hg _)
  rw [List.length_map, List.take_length] at h1
  exact ⟨v, h1⟩
/-- one word -/
theorem put_word {e : Env} {x : Str} {W i j : Nat} {acc : List Str} {s : Store} (h1 : e[j]? = some (some (.ref W))) (h2 : e[i]? = some (some (.str x))) (hW : s[W]? = some (.lst (acc.map PV.str))) (hl : acc.length ≤ 10000) :
    ifS (isB (opF ninV (varF i) (varF j))) (dropS (bmF' "list" appendV (varF j) (consA (varF i) nilA))) nxS e s = .nx e (s.set W (.lst ((addW acc x).map PV.str))) := by
  have q : acc.length < 16777216 := by omega
  unfold addW
  by_cases hx : x ∈ acc
  · simp only [seqS, ifS, setS, augS, dropS, retS, retN, nxS, bkS, ctS, asgS, subS, R.toS, R.bind, R.of, opF, unF, varF, cstF, chF, isB, asB, andT, orT, notT, andF, orF, notF, ifF, nilA, consA, tupF, lstF, cbF, callF, bmF', truT, truV, nameG, nilG, consG, tupG, List.set_cons_zero, List.set_cons_succ, List.getElem?_cons_zero, List.getElem?_cons_succ, Option.bind_some, Option.bind_none, Option.map_some, Option.map_none, List.length_cons, List.length_nil, List.cons_append, List.nil_append, List.append_nil, if_true, if_false, ite_true, ite_false, Bool.false_eq_true, reduceIte, reduceCtorEq, List.map_cons, List.map_nil, Nat.sub_self, List.replicate_succ, List.replicate_zero, Nat.reduceSub, Nat.reduceAdd, Nat.reduceLT, Nat.reduceLeDiff, Nat.reduceEqDiff, Nat.reduceMul, Nat.reducePow, Int.reduceLT, Int.reduceLE, Int.reduceAdd, Int.reduceMul, Int.reduceSub, Int.reduceNeg, Int.reduceEq, Int.reducePow, Int.reduceMod, Int.reduceDiv, Int.reduceToNat, decide_true, decide_false, and_true, true_and, and_self, Option.some.injEq, h1, h2, ninV, inB_words hW, hx, Bool.not_true, set_same hW]
  · simp only [seqS, ifS, setS, augS, dropS, retS, retN, nxS, bkS, ctS, asgS, subS, R.toS, R.bind, R.of, opF, unF, varF, cstF, chF, isB, asB, andT, orT, notT, andF, orF, notF, ifF, nilA, consA, tupF, lstF, cbF, callF, bmF', truT, truV, nameG, nilG, consG, tupG, List.set_cons_zero, List.set_cons_succ, List.getElem?_cons_zero, List.getElem?_cons_succ, Option.bind_some, Option.bind_none, Option.map_some, Option.map_none, List.length_cons, List.length_nil, List.cons_append, List.nil_append, List.append_nil, if_true, if_false, ite_true, ite_false, Bool.false_eq_true, reduceIte, reduceCtorEq, List.map_cons, List.map_nil, Nat.sub_self, List.replicate_succ, List.replicate_zero, Nat.reduceSub, Nat.reduceAdd, Nat.reduceLT, Nat.reduceLeDiff, Nat.reduceEqDiff, Nat.reduceMul, Nat.reducePow, Int.reduceLT, Int.reduceLE, Int.reduceAdd, Int.reduceMul, Int.reduceSub, Int.reduceNeg, Int.reduceEq, Int.reducePow, Int.reduceMod, Int.reduceDiv, Int.reduceToNat, decide_true, decide_false, and_true, true_and, and_self, Option.some.injEq, h1, h2, ninV, inB_words hW, hx, Bool.not_false, tyOk, hW, beq_self_eq_true, appendV, sizeLine_eq, List.length_map, q, List.map_append]
theorem F_holes_ok {pw : List Str} (hp : pw.length ≤ 100) : ∀ (n : Nat) (t : Tr) (st : Store), t.depth ≤ n → ofP pw t → F_holes n [t.pv] st = .ok (.ref st.length) (st ++ [.lst ((hol t).map PV.str)]) := by
  intro n
  induction n with
  | zero => intro t st h; have := depth_pos t; omega
  | succ n ih =>
    intro t st h ho
    have pure : ∀ l : List Str, puresP (l.map PV.str) = true := fun l => pures_iff.mpr fun x hx => by
      obtain ⟨t, _, rfl⟩ := List.mem_map.mp hx
      rfl
    unfold F_holes
    cases t with
    | num i =>
      refine run_new (g := [.lst []]) (r := st.length) ?_ getS0 (Nat.le_refl _) rfl
      simp only [b_holes, Tr.pv, seqS, ifS, setS, augS, dropS, retS, retN, nxS, bkS, ctS, asgS, subS, R.toS, R.bind, R.of, opF, unF, varF, cstF, chF, isB, asB, andT, orT, notT, andF, orF, notF, ifF, nilA, consA, tupF, lstF, cbF, callF, bmF', truT, truV, nameG, nilG, consG, tupG, List.set_cons_zero, List.set_cons_succ, List.getElem?_cons_zero, List.getElem?_cons_succ, Option.bind_some, Option.bind_none, Option.map_some, Option.map_none, List.length_cons, List.length_nil, List.cons_append, List.nil_append, List.append_nil, if_true, if_false, ite_true, ite_false, Bool.false_eq_true, reduceIte, reduceCtorEq, List.map_cons, List.map_nil, Nat.sub_self, List.replicate_succ, List.replicate_zero, Nat.reduceSub, Nat.reduceAdd, Nat.reduceLT, Nat.reduceLeDiff, Nat.reduceEqDiff, Nat.reduceMul, Nat.reducePow, Int.reduceLT, Int.reduceLE, Int.reduceAdd, Int.reduceMul, Int.reduceSub, Int.reduceNeg, Int.reduceEq, Int.reducePow, Int.reduceMod, Int.reduceDiv, Int.reduceToNat, decide_true, decide_false, and_true, true_and, and_self, Option.some.injEq, addV, iaddV, subV, mulV, fdivV, modV, powV, negV, cmpV, isNonV, notNonV, eqV, neV, eqB, scEq, t1, t2, t3, t4, t5, t6, t7, t8, t9, t10, t11, t12, t13, t14, t15, t16, idxV, at0, at1, at2, at3, at4, at5, seqAt, lstAt, lenV, isiV, typV, kb1, kb2, kb3, kb4, kb5, kb6, kb7, kb8, kb9, kb10, kb11, sizeLine_eq]
    | name i =>
      refine run_new (g := [.lst []]) (r := st.length) ?_ getS0 (Nat.le_refl _) rfl
      simp only [b_holes, Tr.pv, seqS, ifS, setS, augS, dropS, retS, retN, nxS, bkS, ctS, asgS, subS, R.toS, R.bind, R.of, opF, unF, varF, cstF, chF, isB, asB, andT, orT, notT, andF, orF, notF, ifF, nilA, consA, tupF, lstF, cbF, callF, bmF', truT, truV, nameG, nilG, consG, tupG, List.set_cons_zero, List.set_cons_succ, List.getElem?_cons_zero, List.getElem?_cons_succ, Option.bind_some, Option.bind_none, Option.map_some, Option.map_none, List.length_cons, List.length_nil, List.cons_append, List.nil_append, List.append_nil, if_true, if_false, ite_true, ite_false, Bool.false_eq_true, reduceIte, reduceCtorEq, List.map_cons, List.map_nil, Nat.sub_self, List.replicate_succ, List.replicate_zero, Nat.reduceSub, Nat.reduceAdd, Nat.reduceLT, Nat.reduceLeDiff, Nat.reduceEqDiff, Nat.reduceMul, Nat.reducePow, Int.reduceLT, Int.reduceLE, Int.reduceAdd, Int.reduceMul, Int.reduceSub, Int.reduceNeg, Int.reduceEq, Int.reducePow, Int.reduceMod, Int.reduceDiv, Int.reduceToNat, decide_true, decide_false, and_true, true_and, and_self, Option.some.injEq, addV, iaddV, subV, mulV, fdivV, modV, powV, negV, cmpV, isNonV, notNonV, eqV, neV, eqB, scEq, t1, t2, t3, t4, t5, t6, t7, t8, t9, t10, t11, t12, t13, t14, t15, t16, idxV, at0, at1, at2, at3, at4, at5, seqAt, lstAt, lenV, isiV, typV, kb1, kb2, kb3, kb4, kb5, kb6, kb7, kb8, kb9, kb10, kb11, sizeLine_eq]
    | any x =>
      refine run_new (g := [.lst [.str x]]) (r := st.length) ?_ getS0 (Nat.le_refl _) rfl
      simp only [b_holes, Tr.pv, seqS, ifS, setS, augS, dropS, retS, retN, nxS, bkS, ctS, asgS, subS, R.toS, R.bind, R.of, opF, unF, varF, cstF, chF, isB, asB, andT, orT, notT, andF, orF, notF, ifF, nilA, consA, tupF, lstF, cbF, callF, bmF', truT, truV, nameG, nilG, consG, tupG, List.set_cons_zero, List.set_cons_succ, List.getElem?_cons_zero, List.getElem?_cons_succ, Option.bind_some, Option.bind_none, Option.map_some, Option.map_none, List.length_cons, List.length_nil, List.cons_append, List.nil_append, List.append_nil, if_true, if_false, ite_true, ite_false, Bool.false_eq_true, reduceIte, reduceCtorEq, List.map_cons, List.map_nil, Nat.sub_self, List.replicate_succ, List.replicate_zero, Nat.reduceSub, Nat.reduceAdd, Nat.reduceLT, Nat.reduceLeDiff, Nat.reduceEqDiff, Nat.reduceMul, Nat.reducePow, Int.reduceLT, Int.reduceLE, Int.reduceAdd, Int.reduceMul, Int.reduceSub, Int.reduceNeg, Int.reduceEq, Int.reducePow, Int.reduceMod, Int.reduceDiv, Int.reduceToNat, decide_true, decide_false, and_true, true_and, and_self, Option.some.injEq, addV, iaddV, subV, mulV, fdivV, modV, powV, negV, cmpV, isNonV, notNonV, eqV, neV, eqB, scEq, t1, t2, t3, t4, t5, t6, t7, t8, t9, t10, t11, t12, t13, t14, t15, t16, idxV, at0, at1, at2, at3, at4, at5, seqAt, lstAt, lenV, isiV, typV, kb1, kb2, kb3, kb4, kb5, kb6, kb7, kb8, kb9, kb10, kb11, sizeLine_eq, tyOk, getS0, beq_self_eq_true, appendV, setS0_app]
    | of w as =>
      have ho' : ofPL pw as := by simpa only [ofP] using ho
      simp only [Tr.depth] at h
      obtain ⟨e', st', h1, h2⟩ := forL_inv (gd := []) (g := nameG 2) (b := b_holes_s2 (F_holes n)) (xs := pvs as)
        (fun i e s => ∃ (g : Store) (a b : Option PV), s = st ++ (.lst ((holF (as.take i) []).map PV.str) :: g) ∧ e = [some (Tr.of w as).pv, some (.ref st.length), a, b]) (e := [some (Tr.of w as).pv, some (.ref st.length), none, none]) (st := st ++ [.lst []]) ⟨[], none, none, rfl, rfl⟩
        (fun i x e s hx hP => by
          obtain ⟨g, a, b, rfl, rfl⟩ := hP
          rw [pvs_map, List.getElem?_map] at hx
          obtain ⟨t, ht, rfl⟩ := Option.map_eq_some_iff.mp hx
          have hd := depthL_le (List.mem_of_getElem? ht)
          have tp := ofPL_iff.mp ho' t (List.mem_of_getElem? ht)
          refine ⟨gd_nil _, _, rfl, ?_⟩
          have hc := ih t (st ++ (.lst ((holF (as.take i) []).map PV.str) :: g)) (by omega) tp
          have tk : ofPL pw (as.take i) := ofPL_iff.mpr fun t ht => ofPL_iff.mp ho' t (List.mem_of_mem_take ht)
          have k1 := holF_ok (pw := pw) (as.take i) [] tk ⟨by simp, fun y hy => by cases hy⟩
          have k2 := hol_ok t tp
          have l1 := nd_len k1.1 k1.2
          have l2 := nd_len k2.1 k2.2
          have W0 : ∀ (o : PO) (g' : Store), (st ++ (o :: g'))[st.length]? = some o := fun o g' => by rw [getS0]; rfl
          have S0 : ∀ (o o' : PO) (g' : Store), (st ++ (o :: g')).set st.length o' = st ++ (o' :: g') := fun o o' g' => by rw [setS0_app]; rfl
          obtain ⟨v, hv⟩ := inner (gd := [((st ++ (.lst ((holF (as.take i) []).map PV.str) :: g)).length, .lst ((hol t).map PV.str))]) (i := 3) (b := b_holes_s1 (F_holes n)) (W := st.length) (e := [some (Tr.of w as).pv, some (.ref st.length), some t.pv, b]) (s := st ++ (PO.lst ((holF (as.take i) []).map PV.str) :: (g ++ [PO.lst ((hol t).map PV.str)])))
            (hol t) (holF (as.take i) []) (by simp) (W0 _ _) (fun o => gd_one (by
              rw [S0]
              have : (st ++ (o :: (g ++ [.lst ((hol t).map PV.str)]))) = (st ++ (o :: g)) ++ [.lst ((hol t).map PV.str)] := by simp
              rw [this, show (st ++ (PO.lst ((holF (as.take i) []).map PV.str) :: g)).length = (st ++ (o :: g)).length by simp, getS0]
              rfl)) (by omega) (fun x acc' v hl => by
              have := put_word (e := [some (Tr.of w as).pv, some (.ref st.length), some t.pv, some (.str x)]) (x := x) (W := st.length) (i := 3) (j := 1) (acc := acc') (s := (st ++ (PO.lst ((holF (as.take i) []).map PV.str) :: (g ++ [PO.lst ((hol t).map PV.str)]))).set st.length (.lst (acc'.map PV.str))) rfl rfl (by rw [S0]; exact W0 _ _) hl
              rw [List.set_set] at this
              exact this)
          refine ⟨[some (Tr.of w as).pv, some (.ref st.length), some t.pv, v], st ++ (.lst ((holF (as.take (i + 1)) []).map PV.str) :: (g ++ [.lst ((hol t).map PV.str)])), ?_, _, _, _, rfl, rfl⟩
          rw [S0] at hv
          rw [List.take_add_one, ht, Option.toList_some, holF_app]
          simp only [holF]
          have ap : (st ++ (PO.lst ((holF (as.take i) []).map PV.str) :: g)) ++ [PO.lst ((hol t).map PV.str)] = st ++ (PO.lst ((holF (as.take i) []).map PV.str) :: (g ++ [PO.lst ((hol t).map PV.str)])) := by simp
          rw [ap] at hc
          have gt : (st ++ (PO.lst ((holF (as.take i) []).map PV.str) :: (g ++ [.lst ((hol t).map PV.str)])))[(st ++ (PO.lst ((holF (as.take i) []).map PV.str) :: g)).length]? = some (.lst ((hol t).map PV.str)) := by
            rw [← ap, getS0]; rfl
          simp only [b_holes_s2, forS, seqI, seqS, ifS, setS, augS, dropS, retS, retN, nxS, bkS, ctS, asgS, subS, R.toS, R.bind, R.of, opF, unF, varF, cstF, chF, isB, asB, andT, orT, notT, andF, orF, notF, ifF, nilA, consA, tupF, lstF, cbF, callF, bmF', truT, truV, nameG, nilG, consG, tupG, List.set_cons_zero, List.set_cons_succ, List.getElem?_cons_zero, List.getElem?_cons_succ, Option.bind_some, Option.bind_none, Option.map_some, Option.map_none, List.length_cons, List.length_nil, List.cons_append, List.nil_append, List.append_nil, if_true, if_false, ite_true, ite_false, Bool.false_eq_true, reduceIte, reduceCtorEq, List.map_cons, List.map_nil, Nat.sub_self, List.replicate_succ, List.replicate_zero, Nat.reduceSub, Nat.reduceAdd, Nat.reduceLT, Nat.reduceLeDiff, Nat.reduceEqDiff, Nat.reduceMul, Nat.reducePow, Int.reduceLT, Int.reduceLE, Int.reduceAdd, Int.reduceMul, Int.reduceSub, Int.reduceNeg, Int.reduceEq, Int.reducePow, Int.reduceMod, Int.reduceDiv, Int.reduceToNat, decide_true, decide_false, and_true, true_and, and_self, Option.some.injEq, hc, seqAt, lstAt, gt, gdOf]
          exact hv) (fun e s _ => gd_nil _)
      obtain ⟨g, a, b, rfl, rfl⟩ := h2
      rw [pvs_map, List.length_map, List.take_length] at h1
      rw [← pvs_map] at h1
      simp only [Tr.pv] at h1
      simp only [hol]
      refine run_new (g := .lst ((holF as []).map PV.str) :: g) (r := st.length) ?_ (by rw [getS0]; rfl) (Nat.le_refl _) (by simp only [objOk]; exact pures_refs _ (pure _))
      simp only [b_holes, Tr.pv, seqS, ifS, setS, augS, dropS, retS, retN, nxS, bkS, ctS, asgS, subS, R.toS, R.bind, R.of, opF, unF, varF, cstF, chF, isB, asB, andT, orT, notT, andF, orF, notF, ifF, nilA, consA, tupF, lstF, cbF, callF, bmF', truT, truV, nameG, nilG, consG, tupG, List.set_cons_zero, List.set_cons_succ, List.getElem?_cons_zero, List.getElem?_cons_succ, Option.bind_some, Option.bind_none, Option.map_some, Option.map_none, List.length_cons, List.length_nil, List.cons_append, List.nil_append, List.append_nil, if_true, if_false, ite_true, ite_false, Bool.false_eq_true, reduceIte, reduceCtorEq, List.map_cons, List.map_nil, Nat.sub_self, List.replicate_succ, List.replicate_zero, Nat.reduceSub, Nat.reduceAdd, Nat.reduceLT, Nat.reduceLeDiff, Nat.reduceEqDiff, Nat.reduceMul, Nat.reducePow, Int.reduceLT, Int.reduceLE, Int.reduceAdd, Int.reduceMul, Int.reduceSub, Int.reduceNeg, Int.reduceEq, Int.reducePow, Int.reduceMod, Int.reduceDiv, Int.reduceToNat, decide_true, decide_false, and_true, true_and, and_self, Option.some.injEq, addV, iaddV, subV, mulV, fdivV, modV, powV, negV, cmpV, isNonV, notNonV, eqV, neV, eqB, scEq, t1, t2, t3, t4, t5, t6, t7, t8, t9, t10, t11, t12, t13, t14, t15, t16, idxV, at0, at1, at2, at3, at4, at5, seqAt, lstAt, lenV, isiV, typV, kb1, kb2, kb3, kb4, kb5, kb6, kb7, kb8, kb9, kb10, kb11, sizeLine_eq, forS, seqI, gdOf, h1]
/-! ### rows that hold a list -/
abbrev Rw := Tr × Nat
def rowP (q : Rw) : PV := .tup [q.1.pv, .ref q.2, .int (q.1.depth : Nat)]
def Hold (s : Store) (rs : List Rw) : Prop := ∀ q ∈ rs, s[q.2]? = some (.lst ((hol q.1).map PV.str))
theorem Hold.app {s g : Store} {rs : List Rw} (h : Hold s rs) : Hold (s ++ g) rs := fun q hq => getOld (h q hq)
theorem Hold.set {s : Store} {rs : List Rw} {p : Nat} {o : PO} (h : Hold s rs) (hp : ∀ q ∈ rs, q.2 ≠ p) : Hold (s.set p o) rs := fun q hq => by
  rw [List.getElem?_set_ne (fun e => hp q hq e.symm)]
  exact h q hq
theorem Hold.lt {s : Store} {rs : List Rw} (h : Hold s rs) {q : Rw} (hq : q ∈ rs) : q.2 < s.length := (List.getElem?_eq_some_iff.mp (h q hq)).1
theorem run_keep {n : Nat} {body : FS} {args : List PV} {st s' : Store} {xs : List PV} (h : body (args.map some ++ List.replicate (n - args.length) none) st = .rt (.tup xs) s') (p : refsOks st.length xs = false) : runFn n body args st = .ok (.tup xs) s' := by
  unfold runFn
  rw [h]
  show gc st (.tup xs) s' = _
  unfold gc
  split
  · rw [if_neg (by simp only [refsOk, p]; decide)]
  · rfl
theorem row_new (st : Store) (t : Tr) (r : Nat) (h : st.length ≤ r) : refsOks st.length [t.pv, .ref r, .int (t.depth : Nat)] = false := by
  simp only [refsOks, refsOk, pure_refs _ (pv_pure t), decide_eq_false (show ¬ r < st.length by omega), Bool.true_and, Bool.false_and]
def fsts (rs : List Rw) : List Tr := rs.map (·.1)
theorem F_joined {w : Str} {ts : List Rw} {r : Nat} {st : Store} {pw : List Str} (hpw : pw.length ≤ 100) (hs : st[r]? = some (.lst (ts.map rowP))) (h0 : ts ≠ []) (hl : ts.length ≤ 1000) (hH : Hold st ts) (hP : ofPL pw (fsts ts)) :
    ∃ g r', F_L_joined_3 [.str w, .ref r] st = .ok (rowP (.of w (fsts ts), r')) (st ++ g) ∧ st.length ≤ r' ∧ Hold (st ++ g) [(.of w (fsts ts), r')] := by
  have rlt : r < st.length := (List.getElem?_eq_some_iff.mp hs).1
  have hs' : ∀ g : Store, (st ++ g)[r]? = some (.lst (ts.map rowP)) := fun g => getOld hs
  have l4 : ∀ (s : Store) (a b c d : Option PV), s[r]? = some (.lst (ts.map rowP)) → lcF (seqI (varF 1)) [4] (nameG 4) yesT b_L_joined_3_e4 [some (.str w), some (.ref r), a, b, c, d] s = .ok (.ref s.length) (s ++ [.lst (ts.map fun t => t.1.pv)]) := fun s a b c d h =>
    lcE r ts rowP _ rfl h (by omega) fun t _ acc => by simp only [b_L_joined_3_e4, rowP, wipeE, seqS, ifS, setS, augS, dropS, retS, retN, nxS, bkS, ctS, asgS, subS, R.toS, R.bind, R.of, opF, unF, varF, cstF, chF, isB, asB, andT, orT, notT, andF, orF, notF, ifF, nilA, consA, tupF, lstF, cbF, callF, bmF', truT, truV, nameG, nilG, consG, tupG, List.set_cons_zero, List.set_cons_succ, List.getElem?_cons_zero, List.getElem?_cons_succ, Option.bind_some, Option.bind_none, Option.map_some, Option.map_none, List.length_cons, List.length_nil, List.cons_append, List.nil_append, List.append_nil, if_true, if_false, ite_true, ite_false, Bool.false_eq_true, reduceIte, reduceCtorEq, List.map_cons, List.map_nil, Nat.sub_self, List.replicate_succ, List.replicate_zero, Nat.reduceSub, Nat.reduceAdd, Nat.reduceLT, Nat.reduceLeDiff, Nat.reduceEqDiff, Nat.reduceMul, Nat.reducePow, Int.reduceLT, Int.reduceLE, Int.reduceAdd, Int.reduceMul, Int.reduceSub, Int.reduceNeg, Int.reduceEq, Int.reducePow, Int.reduceMod, Int.reduceDiv, Int.reduceToNat, decide_true, decide_false, and_true, true_and, and_self, Option.some.injEq, idxV, at0, at1, at2, at3, at4, at5, seqAt, lstAt, lenV, isiV, typV, kb1, kb2, kb3, kb4, kb5, kb6, kb7, kb8, kb9, kb10, kb11]
  have l1 : ∀ (s : Store) (a b c d : Option PV), s[r]? = some (.lst (ts.map rowP)) → lcF (seqI (varF 1)) [4] (nameG 4) yesT b_L_joined_3_e1 [some (.str w), some (.ref r), a, b, c, d] s = .ok (.ref s.length) (s ++ [.lst (ts.map fun t => .int (t.1.depth : Nat))]) := fun s a b c d h =>
    lcE r ts rowP _ rfl h (by omega) fun t _ acc => by simp only [b_L_joined_3_e1, rowP, wipeE, seqS, ifS, setS, augS, dropS, retS, retN, nxS, bkS, ctS, asgS, subS, R.toS, R.bind, R.of, opF, unF, varF, cstF, chF, isB, asB, andT, orT, notT, andF, orF, notF, ifF, nilA, consA, tupF, lstF, cbF, callF, bmF', truT, truV, nameG, nilG, consG, tupG, List.set_cons_zero, List.set_cons_succ, List.getElem?_cons_zero, List.getElem?_cons_succ, Option.bind_some, Option.bind_none, Option.map_some, Option.map_none, List.length_cons, List.length_nil, List.cons_append, List.nil_append, List.append_nil, if_true, if_false, ite_true, ite_false, Bool.false_eq_true, reduceIte, reduceCtorEq, List.map_cons, List.map_nil, Nat.sub_self, List.replicate_succ, List.replicate_zero, Nat.reduceSub, Nat.reduceAdd, Nat.reduceLT, Nat.reduceLeDiff, Nat.reduceEqDiff, Nat.reduceMul, Nat.reducePow, Int.reduceLT, Int.reduceLE, Int.reduceAdd, Int.reduceMul, Int.reduceSub, Int.reduceNeg, Int.reduceEq, Int.reducePow, Int.reduceMod, Int.reduceDiv, Int.reduceToNat, decide_true, decide_false, and_true, true_and, and_self, Option.some.injEq, idxV, at0, at1, at2, at3, at4, at5, seqAt, lstAt, lenV, isiV, typV, kb1, kb2, kb3, kb4, kb5, kb6, kb7, kb8, kb9, kb10, kb11]
  have hne : (ts.map fun a => ((a.1.depth : Nat) : Int)) ≠ [] := by simpa using h0
  have fne : fsts ts ≠ [] := by simpa [fsts] using h0
  have md : maxL (ts.map fun a => ((a.1.depth : Nat) : Int)) = ((depthL (fsts ts) : Nat) : Int) := by
    rw [← maxL_depth fne]
    simp only [fsts, List.map_map]
    rfl
  have pm : (ts.map fun t => t.1.pv) = pvs (fsts ts) := by rw [pvs_map]; simp [fsts]
  obtain ⟨e', st', h1, h2⟩ := forL_inv (gd := [(r, .lst (ts.map rowP))]) (g := nameG 4) (b := b_L_joined_3_s3) (xs := ts.map rowP)
    (fun i e s => ∃ (a b : Option PV), s = st ++ [.lst (ts.map fun t => t.1.pv), .lst ((holF (fsts (ts.take i)) []).map PV.str)] ∧ e = [some (.str w), some (.ref r), some (.tup [.str "of", .str w, .tup (ts.map fun t => t.1.pv)]), some (.ref (st.length + 1)), a, b])
    (e := [some (.str w), some (.ref r), some (.tup [.str "of", .str w, .tup (ts.map fun t => t.1.pv)]), some (.ref (st.length + 1)), none, none]) (st := st ++ [.lst (ts.map fun t => t.1.pv), .lst []]) ⟨none, none, rfl, rfl⟩
    (fun i x e s hx hP' => by
      obtain ⟨a, b, rfl, rfl⟩ := hP'
      rw [List.getElem?_map] at hx
      obtain ⟨q, hq, rfl⟩ := Option.map_eq_some_iff.mp hx
      have qm := List.mem_of_getElem? hq
      have tp : ofP pw q.1 := ofPL_iff.mp hP q.1 (List.mem_map.mpr ⟨q, qm, rfl⟩)
      have tk : ofPL pw (fsts (ts.take i)) := ofPL_iff.mpr fun t ht => by
        obtain ⟨z, hz, rfl⟩ := List.mem_map.mp ht
        exact ofPL_iff.mp hP _ (List.mem_map.mpr ⟨z, List.mem_of_mem_take hz, rfl⟩)
      have k1 := holF_ok (pw := pw) (fsts (ts.take i)) [] tk ⟨by simp, fun y hy => by cases hy⟩
      have k2 := hol_ok q.1 tp
      have l1 := nd_len k1.1 k1.2
      have l2 := nd_len k2.1 k2.2
      refine ⟨gd_one (hs' _), _, rfl, ?_⟩
      have S1 : ∀ (o a o' : PO), (st ++ [a, o]).set (st.length + 1) o' = st ++ [a, o'] := fun o a o' => by rw [setS_app]; rfl
      have W1 : ∀ (o a : PO), (st ++ [a, o])[st.length + 1]? = some o := fun o a => by rw [getS]; rfl
      obtain ⟨v, hv⟩ := inner (gd := [(q.2, .lst ((hol q.1).map PV.str))]) (i := 5) (b := b_L_joined_3_s2) (W := st.length + 1) (e := [some (.str w), some (.ref r), some (.tup [.str "of", .str w, .tup (ts.map fun t => t.1.pv)]), some (.ref (st.length + 1)), some (rowP q), b]) (s := st ++ [PO.lst (ts.map fun t => t.1.pv), PO.lst ((holF (fsts (ts.take i)) []).map PV.str)])
        (hol q.1) (holF (fsts (ts.take i)) []) (by simp) (W1 _ _) (fun o => gd_one (by rw [S1]; exact getOld (hH q qm))) (by omega) (fun x acc' v hl => by
          have := put_word (e := [some (.str w), some (.ref r), some (.tup [.str "of", .str w, .tup (ts.map fun t => t.1.pv)]), some (.ref (st.length + 1)), some (rowP q), some (.str x)]) (x := x) (W := st.length + 1) (i := 5) (j := 3) (acc := acc') (s := (st ++ [PO.lst (ts.map fun t => t.1.pv), PO.lst ((holF (fsts (ts.take i)) []).map PV.str)]).set (st.length + 1) (.lst (acc'.map PV.str))) rfl rfl (by rw [S1]; exact W1 _ _) hl
          rw [List.set_set] at this
          exact this)
      rw [S1] at hv
      refine ⟨_, _, ?_, some (rowP q), v, rfl, rfl⟩
      have tke : holF (fsts (ts.take (i + 1))) [] = (hol q.1).foldl addW (holF (fsts (ts.take i)) []) := by
        rw [List.take_add_one, hq, Option.toList_some]
        simp only [fsts, List.map_append, holF_app, List.map_cons, List.map_nil, holF]
      rw [tke]
      have gq := fun g => getOld (g := g) (hH q qm)
      simp only [b_L_joined_3_s3, forS, seqI, seqS, ifS, setS, augS, dropS, retS, retN, nxS, bkS, ctS, asgS, subS, R.toS, R.bind, R.of, opF, unF, varF, cstF, chF, isB, asB, andT, orT, notT, andF, orF, notF, ifF, nilA, consA, tupF, lstF, cbF, callF, bmF', truT, truV, nameG, nilG, consG, tupG, List.set_cons_zero, List.set_cons_succ, List.getElem?_cons_zero, List.getElem?_cons_succ, Option.bind_some, Option.bind_none, Option.map_some, Option.map_none, List.length_cons, List.length_nil, List.cons_append, List.nil_append, List.append_nil, if_true, if_false, ite_true, ite_false, Bool.false_eq_true, reduceIte, reduceCtorEq, List.map_cons, List.map_nil, Nat.sub_self, List.replicate_succ, List.replicate_zero, Nat.reduceSub, Nat.reduceAdd, Nat.reduceLT, Nat.reduceLeDiff, Nat.reduceEqDiff, Nat.reduceMul, Nat.reducePow, Int.reduceLT, Int.reduceLE, Int.reduceAdd, Int.reduceMul, Int.reduceSub, Int.reduceNeg, Int.reduceEq, Int.reducePow, Int.reduceMod, Int.reduceDiv, Int.reduceToNat, decide_true, decide_false, and_true, true_and, and_self, Option.some.injEq, idxV, at0, at1, at2, at3, at4, at5, seqAt, lstAt, lenV, isiV, typV, kb1, kb2, kb3, kb4, kb5, kb6, kb7, kb8, kb9, kb10, kb11, rowP, gq, gdOf]
      simp only [rowP] at hv
      exact hv) (fun e s hP' => by
      obtain ⟨a, b, rfl, rfl⟩ := hP'
      exact gd_one (hs' _))
  obtain ⟨a, b, rfl, rfl⟩ := h2
  rw [List.length_map, List.take_length] at h1
  refine ⟨[.lst (ts.map fun t => t.1.pv), .lst ((holF (fsts ts) []).map PV.str), .lst (ts.map fun t => .int (t.1.depth : Nat))], st.length + 1, ?_, by omega, ?_⟩
  · unfold F_L_joined_3 rowP
    refine run_keep ?_ (row_new st _ _ (by omega))
    simp only [b_L_joined_3, seqS, ifS, setS, augS, dropS, retS, retN, nxS, bkS, ctS, asgS, subS, R.toS, R.bind, R.of, opF, unF, varF, cstF, chF, isB, asB, andT, orT, notT, andF, orF, notF, ifF, nilA, consA, tupF, lstF, cbF, callF, bmF', truT, truV, nameG, nilG, consG, tupG, List.set_cons_zero, List.set_cons_succ, List.getElem?_cons_zero, List.getElem?_cons_succ, Option.bind_some, Option.bind_none, Option.map_some, Option.map_none, List.length_cons, List.length_nil, List.cons_append, List.nil_append, List.append_nil, if_true, if_false, ite_true, ite_false, Bool.false_eq_true, reduceIte, reduceCtorEq, List.map_cons, List.map_nil, Nat.sub_self, List.replicate_succ, List.replicate_zero, Nat.reduceSub, Nat.reduceAdd, Nat.reduceLT, Nat.reduceLeDiff, Nat.reduceEqDiff, Nat.reduceMul, Nat.reducePow, Int.reduceLT, Int.reduceLE, Int.reduceAdd, Int.reduceMul, Int.reduceSub, Int.reduceNeg, Int.reduceEq, Int.reducePow, Int.reduceMod, Int.reduceDiv, Int.reduceToNat, decide_true, decide_false, and_true, true_and, and_self, Option.some.injEq, addV, iaddV, subV, mulV, fdivV, modV, powV, negV, cmpV, isNonV, notNonV, idxV, at0, at1, at2, at3, at4, at5, seqAt, lstAt, lenV, isiV, typV, kb1, kb2, kb3, kb4, kb5, kb6, kb7, kb8, kb9, kb10, kb11, sizeLine_eq, l1, l4, hs, hs', tupleV, maxV, getS0, getS, lenS, appS, intsOf_mapf ts (fun a => ((a.1.depth : Nat) : Int)), hne, md, forS, seqI, gdOf, h1]
    simp only [Tr.pv, Tr.depth, Int.natCast_add, pm]
    rfl
  · intro q hq
    rw [List.mem_singleton] at hq
    subst hq
    rw [getS]
    simp only [hol]
    rfl
theorem run_any {n : Nat} {body : FS} {args : List PV} {st g : Store} {q : Rw} (h : body (args.map some ++ List.replicate (n - args.length) none) st = .rt (rowP q) (st ++ g)) (hH : Hold (st ++ g) [q]) : ∃ g', runFn n body args st = .ok (rowP q) (st ++ g') ∧ Hold (st ++ g') [q] := by
  by_cases hr : refsOk st.length (rowP q) = true
  · refine ⟨[], ?_, ?_⟩
    · unfold runFn
      rw [h, List.append_nil]
      exact gc_app hr
    · intro z hz
      have hz' := hz
      rw [List.mem_singleton] at hz
      subst hz
      rw [List.append_nil]
      simp only [rowP, refsOk, refsOks, Bool.and_eq_true, decide_eq_true_eq] at hr
      have := hH z hz'
      rwa [List.getElem?_append_left hr.2.1] at this
  · refine ⟨g, ?_, hH⟩
    unfold runFn
    rw [h]
    show gc st (rowP q) (st ++ g) = _
    unfold gc
    rw [if_pos ⟨by simp, pre_app st g⟩, if_neg hr]
    rfl
theorem refs_mem {n : Nat} : ∀ {xs : List PV}, refsOks n xs = true → ∀ x ∈ xs, refsOk n x = true
  | [], _, x, hx => by cases hx
  | y :: r, h, x, hx => by
    simp only [refsOks, Bool.and_eq_true] at h
    rcases List.mem_cons.mp hx with rfl | q
    · exact h.1
    · exact refs_mem h.2 x q
theorem run_pile {n : Nat} {body : FS} {args : List PV} {st g : Store} {r : Nat} {ts : List Rw} (h : body (args.map some ++ List.replicate (n - args.length) none) st = .rt (.ref r) (st ++ g)) (hr : (st ++ g)[r]? = some (.lst (ts.map rowP))) (hl : st.length ≤ r) (hH : Hold (st ++ g) ts) (hne : ∀ q ∈ ts, q.2 ≠ r) :
    ∃ g' r', runFn n body args st = .ok (.ref r') (st ++ g') ∧ (st ++ g')[r']? = some (.lst (ts.map rowP)) ∧ Hold (st ++ g') ts ∧ st.length ≤ r' ∧ ∀ q ∈ ts, q.2 ≠ r' := by
  by_cases ho : objOk st.length (.lst (ts.map rowP)) = true
  · refine ⟨[.lst (ts.map rowP)], st.length, run_new h hr hl ho, getS0, ?_, Nat.le_refl _, ?_⟩
    all_goals
      intro q hq
      simp only [objOk] at ho
      have := refs_mem ho (rowP q) (List.mem_map_of_mem hq)
      simp only [rowP, refsOk, refsOks, Bool.and_eq_true, decide_eq_true_eq] at this
    · have h2 := hH q hq
      rw [List.getElem?_append_left this.2.1] at h2 ⊢
      exact h2
    · omega
  · refine ⟨g, r, ?_, hr, hH, hl, hne⟩
    unfold runFn
    rw [h]
    show gc st (.ref r) (st ++ g) = _
    unfold gc
    have n : ¬ refsOk st.length (.ref r) = true := by simp [refsOk]; omega
    rw [if_pos ⟨by simp, pre_app st g⟩, if_neg n]
    simp only [hr]
    rw [if_neg fun q => ho q.1]
section
variable {pw : List Str}
theorem F_leaf {c m : Int} {r : Nat} {st : Store} (h0 : 0 ≤ m) (hm : m < 2 ^ 64) (hs : st[r]? = some (.lst (pw.map PV.str))) (hl : pw.length = 4) :
    ∃ g t r', F_L_leaf_3 [.int c, .int m, .ref r] st = .ok (rowP (t, r')) (st ++ g) ∧ st.length ≤ r' ∧ Hold (st ++ g) [(t, r')] ∧ t.depth = 1 ∧ t.ok = true ∧ ofP pw t := by
  have h3 : 0 ≤ m % 4 ∧ m % 4 < 4 := ⟨Int.emod_nonneg _ (by decide), Int.emod_lt_of_pos _ (by decide)⟩
  have c4 : (0 < (4 : Int) ∧ (4 : Int).natAbs.log2 < 9000) := by decide
  have i0 : 0 ≤ m / 4 % 4 ∧ m / 4 % 4 < 4 := ⟨Int.emod_nonneg _ (by decide), Int.emod_lt_of_pos _ (by decide)⟩
  obtain ⟨x, hx⟩ : ∃ x, pw[(m / 4 % 4).toNat]? = some x := ⟨_, List.getElem?_eq_getElem (by omega)⟩
  have hx' : atI (pw.map PV.str) (m / 4 % 4) = some (.str x) := atI_nat' i0.1 (by rw [List.getElem?_map, hx]; rfl)
  have xm := List.mem_of_getElem? hx
  have hold : ∀ t : Tr, Hold (st ++ [.lst ((hol t).map PV.str)]) [(t, st.length)] := fun t q hq => by
    rw [List.mem_singleton] at hq
    subst hq
    exact getS0
  unfold F_L_leaf_3
  by_cases e0 : m % 4 < 2
  · refine ⟨[.lst [.str x]], .any x, st.length, ?_, Nat.le_refl _, hold (.any x), rfl, rfl, by simpa only [ofP] using xm⟩
    unfold rowP
    refine run_keep ?_ (row_new st _ _ (Nat.le_refl _))
    simp only [b_L_leaf_3, seqS, ifS, setS, augS, dropS, retS, retN, nxS, bkS, ctS, asgS, subS, R.toS, R.bind, R.of, opF, unF, varF, cstF, chF, isB, asB, andT, orT, notT, andF, orF, notF, ifF, nilA, consA, tupF, lstF, cbF, callF, bmF', truT, truV, nameG, nilG, consG, tupG, List.set_cons_zero, List.set_cons_succ, List.getElem?_cons_zero, List.getElem?_cons_succ, Option.bind_some, Option.bind_none, Option.map_some, Option.map_none, List.length_cons, List.length_nil, List.cons_append, List.nil_append, List.append_nil, if_true, if_false, ite_true, ite_false, Bool.false_eq_true, reduceIte, reduceCtorEq, List.map_cons, List.map_nil, Nat.sub_self, List.replicate_succ, List.replicate_zero, Nat.reduceSub, Nat.reduceAdd, Nat.reduceLT, Nat.reduceLeDiff, Nat.reduceEqDiff, Nat.reduceMul, Nat.reducePow, Int.reduceLT, Int.reduceLE, Int.reduceAdd, Int.reduceMul, Int.reduceSub, Int.reduceNeg, Int.reduceEq, Int.reducePow, Int.reduceMod, Int.reduceDiv, Int.reduceToNat, decide_true, decide_false, and_true, true_and, and_self, Option.some.injEq, addV, iaddV, subV, mulV, fdivV, modV, powV, negV, cmpV, isNonV, notNonV, eqV, neV, eqB, scEq, t1, t2, t3, t4, t5, t6, t7, t8, t9, t10, t11, t12, t13, t14, t15, t16, idxV, at0, at1, at2, at3, at4, at5, seqAt, lstAt, lenV, isiV, typV, kb1, kb2, kb3, kb4, kb5, kb6, kb7, kb8, kb9, kb10, kb11, sizeLine_eq, e0, c4, hs, hx']
    rfl
  by_cases e1 : m % 4 = 2
  · refine ⟨[.lst []], .num (numberI c (m / 4)), st.length, ?_, Nat.le_refl _, hold (.num (numberI c (m / 4))), rfl, rfl, trivial⟩
    unfold rowP
    refine run_keep ?_ (row_new st _ _ (Nat.le_refl _))
    simp only [b_L_leaf_3, seqS, ifS, setS, augS, dropS, retS, retN, nxS, bkS, ctS, asgS, subS, R.toS, R.bind, R.of, opF, unF, varF, cstF, chF, isB, asB, andT, orT, notT, andF, orF, notF, ifF, nilA, consA, tupF, lstF, cbF, callF, bmF', truT, truV, nameG, nilG, consG, tupG, List.set_cons_zero, List.set_cons_succ, List.getElem?_cons_zero, List.getElem?_cons_succ, Option.bind_some, Option.bind_none, Option.map_some, Option.map_none, List.length_cons, List.length_nil, List.cons_append, List.nil_append, List.append_nil, if_true, if_false, ite_true, ite_false, Bool.false_eq_true, reduceIte, reduceCtorEq, List.map_cons, List.map_nil, Nat.sub_self, List.replicate_succ, List.replicate_zero, Nat.reduceSub, Nat.reduceAdd, Nat.reduceLT, Nat.reduceLeDiff, Nat.reduceEqDiff, Nat.reduceMul, Nat.reducePow, Int.reduceLT, Int.reduceLE, Int.reduceAdd, Int.reduceMul, Int.reduceSub, Int.reduceNeg, Int.reduceEq, Int.reducePow, Int.reduceMod, Int.reduceDiv, Int.reduceToNat, decide_true, decide_false, and_true, true_and, and_self, Option.some.injEq, addV, iaddV, subV, mulV, fdivV, modV, powV, negV, cmpV, isNonV, notNonV, eqV, neV, eqB, scEq, t1, t2, t3, t4, t5, t6, t7, t8, t9, t10, t11, t12, t13, t14, t15, t16, idxV, at0, at1, at2, at3, at4, at5, seqAt, lstAt, lenV, isiV, typV, kb1, kb2, kb3, kb4, kb5, kb6, kb7, kb8, kb9, kb10, kb11, sizeLine_eq, e0, e1, c4, F_number (c := c) (m := m / 4) (st := st) (by omega) (by omega)]
    rfl
  · refine ⟨[.lst []], .name x, st.length, ?_, Nat.le_refl _, hold (.name x), rfl, rfl, trivial⟩
    unfold rowP
    refine run_keep ?_ (row_new st _ _ (Nat.le_refl _))
    simp only [b_L_leaf_3, seqS, ifS, setS, augS, dropS, retS, retN, nxS, bkS, ctS, asgS, subS, R.toS, R.bind, R.of, opF, unF, varF, cstF, chF, isB, asB, andT, orT, notT, andF, orF, notF, ifF, nilA, consA, tupF, lstF, cbF, callF, bmF', truT, truV, nameG, nilG, consG, tupG, List.set_cons_zero, List.set_cons_succ, List.getElem?_cons_zero, List.getElem?_cons_succ, Option.bind_some, Option.bind_none, Option.map_some, Option.map_none, List.length_cons, List.length_nil, List.cons_append, List.nil_append, List.append_nil, if_true, if_false, ite_true, ite_false, Bool.false_eq_true, reduceIte, reduceCtorEq, List.map_cons, List.map_nil, Nat.sub_self, List.replicate_succ, List.replicate_zero, Nat.reduceSub, Nat.reduceAdd, Nat.reduceLT, Nat.reduceLeDiff, Nat.reduceEqDiff, Nat.reduceMul, Nat.reducePow, Int.reduceLT, Int.reduceLE, Int.reduceAdd, Int.reduceMul, Int.reduceSub, Int.reduceNeg, Int.reduceEq, Int.reducePow, Int.reduceMod, Int.reduceDiv, Int.reduceToNat, decide_true, decide_false, and_true, true_and, and_self, Option.some.injEq, addV, iaddV, subV, mulV, fdivV, modV, powV, negV, cmpV, isNonV, notNonV, eqV, neV, eqB, scEq, t1, t2, t3, t4, t5, t6, t7, t8, t9, t10, t11, t12, t13, t14, t15, t16, idxV, at0, at1, at2, at3, at4, at5, seqAt, lstAt, lenV, isiV, typV, kb1, kb2, kb3, kb4, kb5, kb6, kb7, kb8, kb9, kb10, kb11, sizeLine_eq, e0, e1, c4, hs, hx']
    rfl
/-- good rows -/
def Good (pw : List Str) (d : Nat) (ts : List Rw) : Prop := ∀ t ∈ ts, t.1.ok = true ∧ t.1.depth ≤ d ∧ ofP pw t.1
theorem Good.pl {d : Nat} {ts : List Rw} (h : Good pw d ts) : ofPL pw (fsts ts) := ofPL_iff.mpr fun t ht => by
  obtain ⟨q, hq, rfl⟩ := List.mem_map.mp ht
  exact (h q hq).2.2
theorem depthL_max {as : List Rw} {d : Nat} (h : Good pw d as) : depthL (fsts as) ≤ d := by
  induction as with
  | nil => exact Nat.zero_le _
  | cons a r ih =>
    have := (h a List.mem_cons_self).2.1
    have := ih fun t ht => h t (List.mem_cons_of_mem _ ht)
    show max a.1.depth (depthL (fsts r)) ≤ d
    omega
theorem okL_good {as : List Rw} {d : Nat} (h : Good pw d as) : okL (fsts as) = true := by
  induction as with
  | nil => rfl
  | cons a r ih =>
    show (a.1.ok && okL (fsts r)) = true
    rw [(h a List.mem_cons_self).1, ih fun t ht => h t (List.mem_cons_of_mem _ ht)]; rfl
theorem of_good {as : List Rw} {d r : Nat} {w : Str} (h : Good pw d as) (h0 : as ≠ []) (hl : as.length ≤ 1000) : (Tr.of w (fsts as), r).1.ok = true ∧ (Tr.of w (fsts as), r).1.depth ≤ d + 1 ∧ ofP pw (Tr.of w (fsts as), r).1 := by
  refine ⟨?_, ?_, by simp only [ofP]; exact h.pl⟩
  · simp only [Tr.ok, okL_good h, Bool.and_true, Bool.and_eq_true, decide_eq_true_eq, Bool.not_eq_true', List.isEmpty_eq_false_iff]
    exact ⟨by simpa [fsts] using h0, by simpa [fsts] using hl⟩
  · have := depthL_max h
    simp only [Tr.depth]
    omega
theorem good_app {d : Nat} {as bs : List Rw} (h : Good pw d as) (h' : Good pw d bs) : Good pw d (as ++ bs) := fun t ht => by
  rcases List.mem_append.mp ht with q | q
  · exact h t q
  · exact h' t q
theorem good_one {d : Nat} {t : Rw} (h : t.1.ok = true ∧ t.1.depth ≤ d ∧ ofP pw t.1) : Good pw d [t] := fun t' ht => by
  rw [List.mem_singleton] at ht
  subst ht
  exact h
theorem good_up {d d' : Nat} {as : List Rw} (h : Good pw d as) (hd : d ≤ d') : Good pw d' as := fun t ht => ⟨(h t ht).1, Nat.le_trans (h t ht).2.1 hd, (h t ht).2.2⟩
theorem enumL_at {xs : List PV} : ∀ {i k : Nat} {x : PV}, (enumL xs k)[i]? = some x → ∃ y, xs[i]? = some y ∧ x = .tup [.int ((k + i : Nat) : Int), y] := by
  induction xs with
  | nil => intro i k x h; cases h
  | cons a r ih =>
    intro i k x h
    cases i with
    | zero => cases h; exact ⟨a, rfl, rfl⟩
    | succ i =>
      obtain ⟨y, h1, rfl⟩ := ih (k := k + 1) h
      exact ⟨y, h1, by rw [Nat.add_assoc, Nat.add_comm 1 i]⟩
theorem enumL_len {xs : List PV} : ∀ {k : Nat}, (enumL xs k).length = xs.length := by
  induction xs with
  | nil => intro k; rfl
  | cons a r ih => intro k; rw [enumL, List.length_cons, ih, List.length_cons]
theorem F_piled {cs : List Int} {p q : Nat} {st : Store} (hc : st[p]? = some (.lst (cs.map PV.int))) (hp : st[q]? = some (.lst (pw.map PV.str))) (hpl : pw.length = 4) (hl : cs.length ≤ 80) :
    ∃ ts g r, F_L_piled_3 [.ref p, .ref q] st = .ok (.ref r) (st ++ g) ∧ (st ++ g)[r]? = some (.lst (ts.map rowP)) ∧ Hold (st ++ g) ts ∧ ts.length ≤ cs.length ∧ Good pw 26 ts ∧ st.length ≤ r ∧ ∀ q ∈ ts, q.2 ≠ r := by
  obtain ⟨e', st', h1, h2⟩ := forL_inv (gd := [(p, .lst (cs.map PV.int))]) (g := tupG 2 (consG (nameG 3) (consG (nameG 4) nilG))) (b := b_L_piled_3_s2) (xs := enumL (cs.map PV.int) 0)
    (fun i e s => ∃ (g : Store) (ts : List Rw) (r : Nat) (a b c d f h : Option PV), s = st ++ g ∧ e = [some (.ref p), some (.ref q), some (.ref r), a, b, c, d, f, h] ∧ st.length ≤ r ∧ s[r]? = some (.lst (ts.map rowP)) ∧ ts.length ≤ i ∧ Good pw 26 ts ∧ Hold s ts ∧ ∀ q ∈ ts, q.2 ≠ r)
    (e := [some (.ref p), some (.ref q), some (.ref st.length), none, none, none, none, none, none]) (st := st ++ [.lst []])
    ⟨[.lst []], [], st.length, none, none, none, none, none, none, rfl, rfl, Nat.le_refl _, getS0, Nat.le_refl _, (fun _ h => by cases h), (fun _ h => by cases h), fun _ h => by cases h⟩
    (fun i v e s hx hP => by
      obtain ⟨g, ts, r, a, b, c, d, f, h, rfl, rfl, hr, hg, hn, hG, hH, hne'⟩ := hP
      obtain ⟨y', hy, rfl⟩ := enumL_at hx
      rw [List.getElem?_map] at hy
      obtain ⟨n, hn', rfl⟩ := Option.map_eq_some_iff.mp hy
      have hi : i < cs.length := (List.getElem?_eq_some_iff.mp hn').1
      refine ⟨gd_one (getOld hc), _, rfl, ?_⟩
      have hm := F_mixed (c := n) (k := ((0 + i : Nat) : Int)) (st := st ++ g) (by omega) (by omega)
      have qm := mixed_lt n ((0 + i : Nat) : Int)
      generalize hm' : mixed n ((0 + i : Nat) : Int) = m at hm qm
      have q4 : 0 ≤ m % 4 ∧ m % 4 < 4 := ⟨Int.emod_nonneg _ (by decide), Int.emod_lt_of_pos _ (by decide)⟩
      have c4 : (0 < (4 : Int) ∧ (4 : Int).natAbs.log2 < 9000) := by decide
      have c20 : (0 < (20 : Int) ∧ (20 : Int).natAbs.log2 < 9000) := by decide
      obtain ⟨k, hk⟩ : ∃ k : Nat, k = min (1 + m % 4).toNat ts.length := ⟨_, rfl⟩
      have hk1 : min (1 + m % 4) (ts.length : Int) = (k : Int) := by omega
      have hkl : k ≤ ts.length := by omega
      have hcut : cutP (ts.map rowP) (some ((ts.length : Int) - k)) none = (ts.drop (ts.length - k)).map rowP := by
        unfold cutP
        rw [sIx_some (by omega), HT.sIx_none, List.length_map, List.map_drop]
        rw [show min ((ts.length : Int) - k).toNat ts.length = ts.length - k by omega]
        exact List.take_of_length_le (by simp)
      have hcut2 : cutP (ts.map rowP) none (some ((ts.length : Int) - k)) = (ts.take (ts.length - k)).map rowP := by
        unfold cutP
        rw [sIx_some (by omega), HT.sIx_none, List.length_map, List.map_take]
        rw [show min ((ts.length : Int) - k).toNat ts.length = ts.length - k by omega]
        rfl
      have hw : ∀ s, F_L_word [.int (m / 20)] s = .ok (.str (wordS (m / 20))) s := fun s => F_word (by omega)
      have hg' : ∀ k, (st ++ (g ++ k))[r]? = some (.lst (ts.map rowP)) := fun k => by rw [← appS]; exact getOld hg
      have g0 : ∀ k, (st ++ (g ++ k))[(st ++ g).length]? = k[0]? := fun k => by rw [← appS]; exact getS0
      have g1 : ∀ a k, (st ++ (g ++ a :: k))[(st ++ (g ++ [a])).length]? = k[0]? := fun a k => by
        have : (st ++ (g ++ a :: k)) = (st ++ (g ++ [a])) ++ k := by simp
        rw [this]
        exact getS0
      have hlt : ts.length < 16777216 := by omega
      have mini : (minV [.int (1 + m % 4), .int (ts.length : Int)] (st ++ g)) = some (.int (k : Int), st ++ g) := by simp only [minV, hk1]
      let D : PO := .lst ((ts.drop (ts.length - k)).map rowP)
      have lw : ∀ (B : Store) (h' : Option PV), (∀ t r' G, F_L_leaf_3 [.int n, .int (m / 20), .ref q] (st ++ (g ++ B)) = .ok (rowP (t, r')) (st ++ (g ++ (B ++ G))) →
          b_L_piled_3_s2 [some (.ref p), some (.ref q), some (.ref r), some (.int ((0 + i : Nat) : Int)), some (.int n), c, d, f, h] (st ++ g) = .nx [some (.ref p), some (.ref q), some (.ref r), some (.int ((0 + i : Nat) : Int)), some (.int n), some (.int m), some (.int (k : Int)), some (.ref (st ++ g).length), h'] ((st ++ (g ++ (B ++ G))).set r (.lst (ts.map rowP ++ [rowP (t, r')])))) →
          ∃ e2 s2, b_L_piled_3_s2 [some (.ref p), some (.ref q), some (.ref r), some (.int ((0 + i : Nat) : Int)), some (.int n), c, d, f, h] (st ++ g) = .nx e2 s2 ∧
            ∃ (g : Store) (ts : List Rw) (r : Nat) (a b c d f h : Option PV), s2 = st ++ g ∧ e2 = [some (.ref p), some (.ref q), some (.ref r), a, b, c, d, f, h] ∧ st.length ≤ r ∧ s2[r]? = some (.lst (ts.map rowP)) ∧ ts.length ≤ i + 1 ∧ Good pw 26 ts ∧ Hold s2 ts ∧ ∀ q ∈ ts, q.2 ≠ r := fun B h' hb => by
        obtain ⟨G, t, r', t1, t2, t3, t4, t5, t6⟩ := F_leaf (c := n) (m := m / 20) (st := st ++ (g ++ B)) (r := q) (by omega) (by omega) (getOld hp) hpl
        have ap : st ++ (g ++ B) ++ G = st ++ (g ++ (B ++ G)) := by simp
        rw [ap] at t1 t3
        have rl : r < (st ++ g).length := (List.getElem?_eq_some_iff.mp hg).1
        have rn : r' ≠ r := by
          rw [List.length_append] at rl
          simp only [List.length_append] at t2
          omega
        have nr : ∀ q ∈ ts ++ [(t, r')], q.2 ≠ r := fun z hz => by
          rcases List.mem_append.mp hz with w | w
          · exact hne' z w
          · rw [List.mem_singleton] at w
            subst w
            exact rn
        refine ⟨_, _, hb t r' G t1, (g ++ (B ++ G)).set (r - st.length) (.lst (ts.map rowP ++ [rowP (t, r')])), ts ++ [(t, r')], r, _, _, _, _, _, _, List.set_append_right _ _ hr, rfl, hr, ?_, by rw [List.length_append, List.length_singleton]; omega, good_app hG (good_one ⟨t5, by show t.depth ≤ 26; omega, t6⟩), ?_, nr⟩
        · rw [List.getElem?_set_self (List.getElem?_eq_some_iff.mp (hg' (B ++ G))).1, List.map_append]
          rfl
        · refine Hold.set (fun z hz => ?_) nr
          rcases List.mem_append.mp hz with w | w
          · have := Hold.app (g := B ++ G) hH z w
            rwa [appS] at this
          · exact t3 z w
      show ∃ e2 s2, b_L_piled_3_s2 [some (.ref p), some (.ref q), some (.ref r), some (.int ((0 + i : Nat) : Int)), some (.int n), c, d, f, h] (st ++ g) = .nx e2 s2 ∧ _
      by_cases k0 : k = 0
      · have n0 : ¬ (0 : Int) < (k : Int) := by omega
        refine lw [.lst ((ts.drop (ts.length - k)).map rowP)] h fun t r' G t1 => ?_
        simp only [b_L_piled_3_s2, seqS, ifS, setS, augS, dropS, retS, retN, nxS, bkS, ctS, asgS, subS, R.toS, R.bind, R.of, opF, unF, varF, cstF, chF, isB, asB, andT, orT, notT, andF, orF, notF, ifF, nilA, consA, tupF, lstF, cbF, callF, bmF', truT, truV, nameG, nilG, consG, tupG, List.set_cons_zero, List.set_cons_succ, List.getElem?_cons_zero, List.getElem?_cons_succ, Option.bind_some, Option.bind_none, Option.map_some, Option.map_none, List.length_cons, List.length_nil, List.cons_append, List.nil_append, List.append_nil, if_true, if_false, ite_true, ite_false, Bool.false_eq_true, reduceIte, reduceCtorEq, List.map_cons, List.map_nil, Nat.sub_self, List.replicate_succ, List.replicate_zero, Nat.reduceSub, Nat.reduceAdd, Nat.reduceLT, Nat.reduceLeDiff, Nat.reduceEqDiff, Nat.reduceMul, Nat.reducePow, Int.reduceLT, Int.reduceLE, Int.reduceAdd, Int.reduceMul, Int.reduceSub, Int.reduceNeg, Int.reduceEq, Int.reducePow, Int.reduceMod, Int.reduceDiv, Int.reduceToNat, decide_true, decide_false, and_true, true_and, and_self, Option.some.injEq, addV, iaddV, subV, mulV, fdivV, modV, powV, negV, cmpV, isNonV, notNonV, idxV, at0, at1, at2, at3, at4, at5, seqAt, lstAt, lenV, isiV, typV, kb1, kb2, kb3, kb4, kb5, kb6, kb7, kb8, kb9, kb10, kb11, sliF, noO, someO, asI, slV, sizeLine_eq, hm, hg, List.length_map, mini, hcut, c4, n0, hg', c20, t1, tyOk, appendV, beq_self_eq_true, hlt, appS]
      have k1 : (0 : Int) < (k : Int) := by omega
      by_cases k2 : m / 4 % 5 < 2
      case neg =>
        refine lw [.lst ((ts.drop (ts.length - k)).map rowP)] h fun t r' G t1 => ?_
        simp only [b_L_piled_3_s2, seqS, ifS, setS, augS, dropS, retS, retN, nxS, bkS, ctS, asgS, subS, R.toS, R.bind, R.of, opF, unF, varF, cstF, chF, isB, asB, andT, orT, notT, andF, orF, notF, ifF, nilA, consA, tupF, lstF, cbF, callF, bmF', truT, truV, nameG, nilG, consG, tupG, List.set_cons_zero, List.set_cons_succ, List.getElem?_cons_zero, List.getElem?_cons_succ, Option.bind_some, Option.bind_none, Option.map_some, Option.map_none, List.length_cons, List.length_nil, List.cons_append, List.nil_append, List.append_nil, if_true, if_false, ite_true, ite_false, Bool.false_eq_true, reduceIte, reduceCtorEq, List.map_cons, List.map_nil, Nat.sub_self, List.replicate_succ, List.replicate_zero, Nat.reduceSub, Nat.reduceAdd, Nat.reduceLT, Nat.reduceLeDiff, Nat.reduceEqDiff, Nat.reduceMul, Nat.reducePow, Int.reduceLT, Int.reduceLE, Int.reduceAdd, Int.reduceMul, Int.reduceSub, Int.reduceNeg, Int.reduceEq, Int.reducePow, Int.reduceMod, Int.reduceDiv, Int.reduceToNat, decide_true, decide_false, and_true, true_and, and_self, Option.some.injEq, addV, iaddV, subV, mulV, fdivV, modV, powV, negV, cmpV, isNonV, notNonV, idxV, at0, at1, at2, at3, at4, at5, seqAt, lstAt, lenV, isiV, typV, kb1, kb2, kb3, kb4, kb5, kb6, kb7, kb8, kb9, kb10, kb11, sliF, noO, someO, asI, slV, sizeLine_eq, hm, hg, List.length_map, mini, hcut, c4, k1, k2, hg', c20, t1, tyOk, appendV, beq_self_eq_true, hlt, appS]
      have lc := lcE (i := 7) (k := 8) (fe := b_L_piled_3_e1) (e := [some (.ref p), some (.ref q), some (.ref r), some (.int ((0 + i : Nat) : Int)), some (.int n), some (.int m), some (.int (k : Int)), some (.ref (st ++ g).length), h]) (s := st ++ (g ++ [.lst ((ts.drop (ts.length - k)).map rowP)])) (st ++ g).length (ts.drop (ts.length - k)) rowP (fun t => .int (t.1.depth : Nat)) rfl (g0 _) (by rw [List.length_drop]; omega)
        fun t _ acc => by simp only [b_L_piled_3_e1, rowP, wipeE, seqS, ifS, setS, augS, dropS, retS, retN, nxS, bkS, ctS, asgS, subS, R.toS, R.bind, R.of, opF, unF, varF, cstF, chF, isB, asB, andT, orT, notT, andF, orF, notF, ifF, nilA, consA, tupF, lstF, cbF, callF, bmF', truT, truV, nameG, nilG, consG, tupG, List.set_cons_zero, List.set_cons_succ, List.getElem?_cons_zero, List.getElem?_cons_succ, Option.bind_some, Option.bind_none, Option.map_some, Option.map_none, List.length_cons, List.length_nil, List.cons_append, List.nil_append, List.append_nil, if_true, if_false, ite_true, ite_false, Bool.false_eq_true, reduceIte, reduceCtorEq, List.map_cons, List.map_nil, Nat.sub_self, List.replicate_succ, List.replicate_zero, Nat.reduceSub, Nat.reduceAdd, Nat.reduceLT, Nat.reduceLeDiff, Nat.reduceEqDiff, Nat.reduceMul, Nat.reducePow, Int.reduceLT, Int.reduceLE, Int.reduceAdd, Int.reduceMul, Int.reduceSub, Int.reduceNeg, Int.reduceEq, Int.reducePow, Int.reduceMod, Int.reduceDiv, Int.reduceToNat, decide_true, decide_false, and_true, true_and, and_self, Option.some.injEq, idxV, at0, at1, at2, at3, at4, at5, seqAt, lstAt, lenV, isiV, typV, kb1, kb2, kb3, kb4, kb5, kb6, kb7, kb8, kb9, kb10, kb11]
      have dne : ts.drop (ts.length - k) ≠ [] := by
        intro q
        have := congrArg List.length q
        rw [List.length_drop, List.length_nil] at this
        omega
      have md : maxL ((ts.drop (ts.length - k)).map fun a => ((a.1.depth : Nat) : Int)) = ((depthL (fsts (ts.drop (ts.length - k))) : Nat) : Int) := by
        rw [← maxL_depth (show fsts (ts.drop (ts.length - k)) ≠ [] by simpa [fsts] using dne)]
        simp only [fsts, List.map_map]
        rfl
      have hne : ((ts.drop (ts.length - k)).map fun a => ((a.1.depth : Nat) : Int)) ≠ [] := by simpa using dne
      by_cases k3 : ((depthL (fsts (ts.drop (ts.length - k))) : Nat) : Int) < 26
      case neg =>
        refine lw [.lst ((ts.drop (ts.length - k)).map rowP), .lst ((ts.drop (ts.length - k)).map fun t => .int (t.1.depth : Nat))] h fun t r' G t1 => ?_
        simp only [b_L_piled_3_s2, seqS, ifS, setS, augS, dropS, retS, retN, nxS, bkS, ctS, asgS, subS, R.toS, R.bind, R.of, opF, unF, varF, cstF, chF, isB, asB, andT, orT, notT, andF, orF, notF, ifF, nilA, consA, tupF, lstF, cbF, callF, bmF', truT, truV, nameG, nilG, consG, tupG, List.set_cons_zero, List.set_cons_succ, List.getElem?_cons_zero, List.getElem?_cons_succ, Option.bind_some, Option.bind_none, Option.map_some, Option.map_none, List.length_cons, List.length_nil, List.cons_append, List.nil_append, List.append_nil, if_true, if_false, ite_true, ite_false, Bool.false_eq_true, reduceIte, reduceCtorEq, List.map_cons, List.map_nil, Nat.sub_self, List.replicate_succ, List.replicate_zero, Nat.reduceSub, Nat.reduceAdd, Nat.reduceLT, Nat.reduceLeDiff, Nat.reduceEqDiff, Nat.reduceMul, Nat.reducePow, Int.reduceLT, Int.reduceLE, Int.reduceAdd, Int.reduceMul, Int.reduceSub, Int.reduceNeg, Int.reduceEq, Int.reducePow, Int.reduceMod, Int.reduceDiv, Int.reduceToNat, decide_true, decide_false, and_true, true_and, and_self, Option.some.injEq, addV, iaddV, subV, mulV, fdivV, modV, powV, negV, cmpV, isNonV, notNonV, idxV, at0, at1, at2, at3, at4, at5, seqAt, lstAt, lenV, isiV, typV, kb1, kb2, kb3, kb4, kb5, kb6, kb7, kb8, kb9, kb10, kb11, sliF, noO, someO, asI, slV, sizeLine_eq, hm, hg, List.length_map, mini, hcut, c4, k1, k2, hg', c20, t1, tyOk, appendV, beq_self_eq_true, hlt, appS, lc, maxV, g1, intsOf_mapf (ts.drop (ts.length - k)) (fun a => ((a.1.depth : Nat) : Int)), hne, md, k3]
      have dl : (ts.drop (ts.length - k)).length ≤ 1000 := by rw [List.length_drop]; omega
      have gD : Good pw (depthL (fsts (ts.drop (ts.length - k)))) (ts.drop (ts.length - k)) := fun t ht => ⟨(hG t (List.mem_of_mem_drop ht)).1, depthL_le (List.mem_map.mpr ⟨t, ht, rfl⟩), (hG t (List.mem_of_mem_drop ht)).2.2⟩
      obtain ⟨b0, hb0⟩ : ∃ b0, b0 = PO.lst ((ts.drop (ts.length - k)).map rowP) := ⟨_, rfl⟩
      obtain ⟨b1, hb1⟩ : ∃ b0, b0 = PO.lst ((ts.drop (ts.length - k)).map fun t => .int (t.1.depth : Nat)) := ⟨_, rfl⟩
      obtain ⟨b2, hb2⟩ : ∃ b0, b0 = PO.lst ((ts.take (ts.length - k)).map rowP) := ⟨_, rfl⟩
      have hH1 : ∀ k, Hold (st ++ (g ++ k)) ts := fun k => by rw [← appS]; exact hH.app
      obtain ⟨G, r', jn, j2, j3⟩ := F_joined (w := wordS (m / 20)) (r := (st ++ g).length) (st := st ++ (g ++ [b0, b1, b2])) (pw := pw) (by omega) (by rw [g0, hb0]; rfl) dne dl (fun z hz => hH1 _ z (List.mem_of_mem_drop hz)) gD.pl
      have og := of_good (w := wordS (m / 20)) (r := r') gD dne dl
      have g2 : ∀ a b k, (st ++ (g ++ a :: b :: k))[(st ++ (g ++ [a, b])).length]? = k[0]? := fun a b k => by
        have : (st ++ (g ++ a :: b :: k)) = (st ++ (g ++ [a, b])) ++ k := by simp
        rw [this]
        exact getS0
      have tl : (ts.take (ts.length - k)).length < 16777216 := by rw [List.length_take]; omega
      have st2 : ∀ o, (st ++ (g ++ b0 :: b1 :: b2 :: G)).set (st ++ (g ++ [b0, b1])).length o = st ++ (g ++ b0 :: b1 :: o :: G) := fun o => by
        have : (st ++ (g ++ b0 :: b1 :: b2 :: G)) = (st ++ (g ++ [b0, b1])) ++ b2 :: G := by simp
        rw [this, setS0_app]
        simp
      have ap : st ++ (g ++ [b0, b1, b2]) ++ G = st ++ (g ++ b0 :: b1 :: b2 :: G) := by simp
      rw [ap] at jn j3
      have rn : r' ≠ (st ++ (g ++ [b0, b1])).length := by
        simp only [List.length_append, List.length_cons, List.length_nil] at j2 ⊢
        omega
      have nr : ∀ q ∈ ts.take (ts.length - k) ++ [(Tr.of (wordS (m / 20)) (fsts (ts.drop (ts.length - k))), r')], q.2 ≠ (st ++ (g ++ [b0, b1])).length := fun z hz => by
        rcases List.mem_append.mp hz with w | w
        · have := hH.lt (List.mem_of_mem_take w)
          simp only [List.length_append, List.length_cons, List.length_nil] at this ⊢
          omega
        · rw [List.mem_singleton] at w
          subst w
          exact rn
      refine ⟨[some (.ref p), some (.ref q), some (.ref (st ++ (g ++ [b0, b1])).length), some (.int ((0 + i : Nat) : Int)), some (.int n), some (.int m), some (.int (k : Int)), some (.ref (st ++ g).length), h], ((st ++ (g ++ b0 :: b1 :: b2 :: G)).set (st ++ (g ++ [b0, b1])).length (.lst ((ts.take (ts.length - k) ++ [(Tr.of (wordS (m / 20)) (fsts (ts.drop (ts.length - k))), r')]).map rowP))), ?_, g ++ b0 :: b1 :: .lst ((ts.take (ts.length - k) ++ [(Tr.of (wordS (m / 20)) (fsts (ts.drop (ts.length - k))), r')]).map rowP) :: G, ts.take (ts.length - k) ++ [(Tr.of (wordS (m / 20)) (fsts (ts.drop (ts.length - k))), r')], _, _, _, _, _, _, _, st2 _, rfl, ?_, ?_, ?_, ?_, ?_, nr⟩
      · subst hb0 hb1 hb2
        simp only [b_L_piled_3_s2, seqS, ifS, setS, augS, dropS, retS, retN, nxS, bkS, ctS, asgS, subS, R.toS, R.bind, R.of, opF, unF, varF, cstF, chF, isB, asB, andT, orT, notT, andF, orF, notF, ifF, nilA, consA, tupF, lstF, cbF, callF, bmF', truT, truV, nameG, nilG, consG, tupG, List.set_cons_zero, List.set_cons_succ, List.getElem?_cons_zero, List.getElem?_cons_succ, Option.bind_some, Option.bind_none, Option.map_some, Option.map_none, List.length_cons, List.length_nil, List.cons_append, List.nil_append, List.append_nil, if_true, if_false, ite_true, ite_false, Bool.false_eq_true, reduceIte, reduceCtorEq, List.map_cons, List.map_nil, Nat.sub_self, List.replicate_succ, List.replicate_zero, Nat.reduceSub, Nat.reduceAdd, Nat.reduceLT, Nat.reduceLeDiff, Nat.reduceEqDiff, Nat.reduceMul, Nat.reducePow, Int.reduceLT, Int.reduceLE, Int.reduceAdd, Int.reduceMul, Int.reduceSub, Int.reduceNeg, Int.reduceEq, Int.reducePow, Int.reduceMod, Int.reduceDiv, Int.reduceToNat, decide_true, decide_false, and_true, true_and, and_self, Option.some.injEq, addV, iaddV, subV, mulV, fdivV, modV, powV, negV, cmpV, isNonV, notNonV, idxV, at0, at1, at2, at3, at4, at5, seqAt, lstAt, lenV, isiV, typV, kb1, kb2, kb3, kb4, kb5, kb6, kb7, kb8, kb9, kb10, kb11, sliF, noO, someO, asI, slV, sizeLine_eq, hm, hg, List.length_map, mini, hcut, hcut2, c4, k1, k2, hg', c20, tyOk, appendV, beq_self_eq_true, hlt, appS, lc, maxV, g1, g2, intsOf_mapf (ts.drop (ts.length - k)) (fun a => ((a.1.depth : Nat) : Int)), hne, md, k3, hw, jn, tl, List.map_append]
      · simp
      · rw [st2]
        exact g2 _ _ _
      · rw [List.length_append, List.length_take, List.length_singleton]; omega
      · exact good_app (fun t ht => hG t (List.mem_of_mem_take ht)) (good_one ⟨og.1, by have := og.2.1; omega, og.2.2⟩)
      · refine Hold.set (fun z hz => ?_) nr
        rcases List.mem_append.mp hz with w | w
        · exact hH1 _ z (List.mem_of_mem_take w)
        · exact j3 z w
      ) (fun e s hP => by
      obtain ⟨g, ts, r, a, b, c, d, f, h, rfl, rfl, hr, hg, hn, hG, hH, hne'⟩ := hP
      exact gd_one (getOld hc))
  obtain ⟨g, ts, r, a, b, c, d, f, h, rfl, rfl, hr, hg, hn, hG, hH, hne'⟩ := h2
  rw [enumL_len, List.length_map] at hn
  obtain ⟨g', r', f1, f2, f3, f4, f5⟩ := run_pile (n := 9) (body := b_L_piled_3) (args := [.ref p, .ref q]) (g := g) (r := r) (ts := ts) (by
    simp only [b_L_piled_3, seqS, ifS, setS, augS, dropS, retS, retN, nxS, bkS, ctS, asgS, subS, R.toS, R.bind, R.of, opF, unF, varF, cstF, chF, isB, asB, andT, orT, notT, andF, orF, notF, ifF, nilA, consA, tupF, lstF, cbF, callF, bmF', truT, truV, nameG, nilG, consG, tupG, List.set_cons_zero, List.set_cons_succ, List.getElem?_cons_zero, List.getElem?_cons_succ, Option.bind_some, Option.bind_none, Option.map_some, Option.map_none, List.length_cons, List.length_nil, List.cons_append, List.nil_append, List.append_nil, if_true, if_false, ite_true, ite_false, Bool.false_eq_true, reduceIte, reduceCtorEq, List.map_cons, List.map_nil, Nat.sub_self, List.replicate_succ, List.replicate_zero, Nat.reduceSub, Nat.reduceAdd, Nat.reduceLT, Nat.reduceLeDiff, Nat.reduceEqDiff, Nat.reduceMul, Nat.reducePow, Int.reduceLT, Int.reduceLE, Int.reduceAdd, Int.reduceMul, Int.reduceSub, Int.reduceNeg, Int.reduceEq, Int.reducePow, Int.reduceMod, Int.reduceDiv, Int.reduceToNat, decide_true, decide_false, and_true, true_and, and_self, Option.some.injEq, addV, iaddV, subV, mulV, fdivV, modV, powV, negV, cmpV, isNonV, notNonV, idxV, at0, at1, at2, at3, at4, at5, seqAt, lstAt, lenV, isiV, typV, kb1, kb2, kb3, kb4, kb5, kb6, kb7, kb8, kb9, kb10, kb11, sizeLine_eq, forS, enumI, gdOf, getOld hc, h1]) hg hr hH hne'
  exact ⟨ts, g', r', f1, f2, f3, hn, hG, f4, f5⟩
theorem gtakes {st g : Store} (a : Nat) : (st ++ g).length = st.length + g.length := lenS
theorem row_at {l : List Rw} {t : Rw} (h : l[0]? = some t) : atI (l.map rowP) 0 = some (rowP t) := atI_nat' (by decide) (by rw [List.getElem?_map]; show Option.map rowP (l[0]?) = _; rw [h]; rfl)
theorem lk {j : Int} (h : 0 < j) (h2 : j < 2 ^ 64) : 0 < j ∧ j.natAbs.log2 < 9000 := ⟨h, by have := log2_lt (n := j.natAbs) (k := 64) (by omega); omega⟩
theorem small80 : ∀ n : Nat, n ≤ 80 → Builtin.Range.small 0 (n : Int) 4 = true := by decide +kernel
/-- one round of gathering -/
theorem gat_round {ts : List Rw} {d p : Nat} {m : Int} {st : Store} {b c f : Option PV} (hm : 0 ≤ m) (hp : st[p]? = some (.lst (ts.map rowP))) (h0 : ts ≠ []) (hl : ts.length ≤ 80) (hG : Good pw d ts) (hpl : pw.length = 4) (hH : Hold st ts) :
    ∃ e2 g2 r us, b_L_gathered_3_s3 [some (.ref p), some (.int m), b, c, f] st = .nx e2 (st ++ g2) ∧ (∃ b c f, e2 = [some (.ref r), some (.int m), b, c, f]) ∧ (st ++ g2)[r]? = some (.lst (us.map rowP)) ∧ us.length = (ts.length + 3) / 4 ∧ Good pw (d + 1) us ∧ Hold (st ++ g2) us := by
  have hpos : 0 < ts.length := List.length_pos_iff.mpr h0
  have rs : Builtin.Range.rangeSize 0 (ts.length : Int) 4 = (((ts.length + 3) / 4 : Nat) : Int) := by
    unfold Builtin.Range.rangeSize
    rw [if_pos (by decide), if_pos (by omega)]
    omega
  have hR : ∃ n, RgC 0 (ts.length : Int) 4 n := ⟨(ts.length + 3) / 4, by decide, by decide, small80 _ hl, rs⟩
  obtain ⟨e', st', h1, h2⟩ := forL_inv (gd := []) (g := nameG 3) (b := b_L_gathered_3_s1) (xs := intL 0 4 ((ts.length + 3) / 4))
    (fun i e s => ∃ (g : Store) (us : List Rw) (a b : Option PV), s = st ++ g ∧ e = [some (.ref p), some (.int m), some (.ref st.length), a, b] ∧ s[st.length]? = some (.lst (us.map rowP)) ∧ us.length = i ∧ Good pw (d + 1) us ∧ Hold s us ∧ ∀ q ∈ us, q.2 ≠ st.length)
    (e := [some (.ref p), some (.int m), some (.ref st.length), c, f]) (st := st ++ [.lst []])
    ⟨[.lst []], [], c, f, rfl, rfl, getS0, rfl, (fun _ h => by cases h), (fun _ h => by cases h), fun _ h => by cases h⟩
    (fun i v e s hx hP => by
      obtain ⟨g, us, a, b, rfl, rfl, hu, hn, hG', hH', hne'⟩ := hP
      refine ⟨gd_nil _, _, rfl, ?_⟩
      have hi : i < (ts.length + 3) / 4 := by
        have := (List.getElem?_eq_some_iff.mp hx).1
        simpa [intL] using this
      have hv : v = .int (0 + (i : Nat) * 4) := by
        unfold intL at hx
        rw [List.getElem?_map, List.getElem?_range hi] at hx
        simpa using hx.symm
      subst hv
      have hcut : cutP (ts.map rowP) (some (0 + (i : Int) * 4)) (some (0 + (i : Int) * 4 + 4)) = ((ts.drop (i * 4)).take 4).map rowP := by
        unfold cutP
        rw [sIx_some (by omega), sIx_some (by omega), List.length_map, List.map_take, List.map_drop]
        rw [show min (0 + (i : Int) * 4).toNat ts.length = i * 4 by omega]
        by_cases q : i * 4 + 4 ≤ ts.length
        · rw [show min (0 + (i : Int) * 4 + 4).toNat ts.length - i * 4 = 4 by omega]
        · rw [show min (0 + (i : Int) * 4 + 4).toNat ts.length - i * 4 = ts.length - i * 4 by omega, List.take_of_length_le (by simp), List.take_of_length_le (by simp; omega)]
      obtain ⟨l, hl'⟩ : ∃ l, l = (ts.drop (i * 4)).take 4 := ⟨_, rfl⟩
      rw [← hl'] at hcut
      have ll : l.length ≤ 4 ∧ 0 < l.length := by rw [hl', List.length_take, List.length_drop]; omega
      have lG : Good pw d l := fun t ht => hG t (List.mem_of_mem_drop (List.mem_of_mem_take (by rw [← hl']; exact ht)))
      have lH : Hold st l := fun z hz => hH z (List.mem_of_mem_drop (List.mem_of_mem_take (by rw [← hl']; exact hz)))
      have lne : l ≠ [] := List.length_pos_iff.mp ll.2
      have hw : ∀ x s, 0 ≤ x → F_L_word [.int x] s = .ok (.str (wordS x)) s := fun x s h => F_word h
      have hg' : ∀ k, (st ++ (g ++ k))[st.length]? = some (.lst (us.map rowP)) := fun k => by rw [← appS]; exact getOld hu
      have hp' : (st ++ g)[p]? = some (.lst (ts.map rowP)) := getOld hp
      have g0 : ∀ k, (st ++ (g ++ k))[(st ++ g).length]? = k[0]? := fun k => by rw [← appS]; exact getS0
      have hut : us.length < 16777216 := by omega
      have fin : ∀ (B : Store) (t : Rw) (x : Option PV), (t.1.ok = true ∧ t.1.depth ≤ d + 1 ∧ ofP pw t.1) → Hold (st ++ (g ++ B)) [t] → t.2 ≠ st.length → b_L_gathered_3_s1 [some (.ref p), some (.int m), some (.ref st.length), some (.int (0 + (i : Int) * 4)), b] (st ++ g) = .nx [some (.ref p), some (.int m), some (.ref st.length), some (.int (0 + (i : Int) * 4)), x] ((st ++ (g ++ B)).set st.length (.lst (us.map rowP ++ [rowP t]))) →
          ∃ e2 s2, b_L_gathered_3_s1 [some (.ref p), some (.int m), some (.ref st.length), some (.int (0 + (i : Int) * 4)), b] (st ++ g) = .nx e2 s2 ∧
          ∃ (g : Store) (us : List Rw) (a b : Option PV), s2 = st ++ g ∧ e2 = [some (.ref p), some (.int m), some (.ref st.length), a, b] ∧ s2[st.length]? = some (.lst (us.map rowP)) ∧ us.length = i + 1 ∧ Good pw (d + 1) us ∧ Hold s2 us ∧ ∀ q ∈ us, q.2 ≠ st.length := fun B t x ht hHt hnt hb => by
        have nr : ∀ q ∈ us ++ [t], q.2 ≠ st.length := fun z hz => by
          rcases List.mem_append.mp hz with w | w
          · exact hne' z w
          · rw [List.mem_singleton] at w
            subst w
            exact hnt
        refine ⟨_, _, hb, (g ++ B).set 0 (.lst (us.map rowP ++ [rowP t])), us ++ [t], _, _, setS0_app, rfl, ?_, by rw [List.length_append, List.length_singleton, hn], good_app hG' (good_one ht), ?_, nr⟩
        · rw [List.getElem?_set_self (List.getElem?_eq_some_iff.mp (hg' B)).1, List.map_append]
          rfl
        · refine Hold.set (fun z hz => ?_) nr
          rcases List.mem_append.mp hz with w | w
          · have := hH'.app (g := B) z w
            rwa [appS] at this
          · exact hHt z w
      show ∃ e2 s2, b_L_gathered_3_s1 [some (.ref p), some (.int m), some (.ref st.length), some (.int (0 + (i : Int) * 4)), b] (st ++ g) = .nx e2 s2 ∧ _
      by_cases big : 1 < l.length
      case neg =>
        have h1 : l.length = 1 := by omega
        obtain ⟨t, rfl⟩ := List.length_eq_one_iff.mp h1
        refine fin [.lst ([t].map rowP)] t (some (.ref (st ++ g).length)) ⟨(lG t List.mem_cons_self).1, by have := (lG t List.mem_cons_self).2.1; omega, (lG t List.mem_cons_self).2.2⟩ (fun z hz => getOld (lH z hz)) (Nat.ne_of_lt (lH.lt List.mem_cons_self)) ?_
        simp only [b_L_gathered_3_s1, seqS, ifS, setS, augS, dropS, retS, retN, nxS, bkS, ctS, asgS, subS, R.toS, R.bind, R.of, opF, unF, varF, cstF, chF, isB, asB, andT, orT, notT, andF, orF, notF, ifF, nilA, consA, tupF, lstF, cbF, callF, bmF', truT, truV, nameG, nilG, consG, tupG, List.set_cons_zero, List.set_cons_succ, List.getElem?_cons_zero, List.getElem?_cons_succ, Option.bind_some, Option.bind_none, Option.map_some, Option.map_none, List.length_cons, List.length_nil, List.cons_append, List.nil_append, List.append_nil, if_true, if_false, ite_true, ite_false, Bool.false_eq_true, reduceIte, reduceCtorEq, List.map_cons, List.map_nil, Nat.sub_self, List.replicate_succ, List.replicate_zero, Nat.reduceSub, Nat.reduceAdd, Nat.reduceLT, Nat.reduceLeDiff, Nat.reduceEqDiff, Nat.reduceMul, Nat.reducePow, Int.reduceLT, Int.reduceLE, Int.reduceAdd, Int.reduceMul, Int.reduceSub, Int.reduceNeg, Int.reduceEq, Int.reducePow, Int.reduceMod, Int.reduceDiv, Int.reduceToNat, decide_true, decide_false, and_true, true_and, and_self, Option.some.injEq, addV, iaddV, subV, mulV, fdivV, modV, powV, negV, cmpV, isNonV, notNonV, idxV, at0, at1, at2, at3, at4, at5, seqAt, lstAt, lenV, isiV, typV, kb1, kb2, kb3, kb4, kb5, kb6, kb7, kb8, kb9, kb10, kb11, sliF, noO, someO, asI, slV, sizeLine_eq, hp', hcut, List.length_map, hg', tyOk, appendV, beq_self_eq_true, hut, appS, g0, Int.reduceOfNat, Int.ofNat_one, Int.lt_irrefl]
      have lHs : Hold (st ++ (g ++ [.lst (l.map rowP)])) l := fun z hz => getOld (lH z hz)
      obtain ⟨G, r', jn, j2, j3⟩ := F_joined (w := wordS (m / (0 + (i : Int) * 4 + 1))) (r := (st ++ g).length) (st := st ++ (g ++ [.lst (l.map rowP)])) (pw := pw) (by omega) (g0 _) lne (by omega) lHs lG.pl
      have ap : st ++ (g ++ [PO.lst (l.map rowP)]) ++ G = st ++ (g ++ PO.lst (l.map rowP) :: G) := by simp
      rw [ap] at jn j3
      have og := of_good (w := wordS (m / (0 + (i : Int) * 4 + 1))) (r := r') lG lne (by omega)
      have rn : r' ≠ st.length := by
        simp only [List.length_append, List.length_cons, List.length_nil] at j2
        omega
      have g1 : ∀ a k, (st ++ (g ++ a :: k))[(st ++ (g ++ [a])).length]? = k[0]? := fun a k => by
        have : (st ++ (g ++ a :: k)) = (st ++ (g ++ [a])) ++ k := by simp
        rw [this]
        exact getS0
      have big' : (1 : Int) < (l.length : Int) := by omega
      have lk' := lk (j := 0 + (i : Int) * 4 + 1) (by omega) (by omega)
      have dv : 0 ≤ m / (0 + (i : Int) * 4 + 1) := Int.ediv_nonneg hm (by omega)
      have gG : ∀ k, (st ++ (g ++ PO.lst (l.map rowP) :: (G ++ k)))[(st ++ (g ++ PO.lst (l.map rowP) :: G)).length]? = k[0]? := fun k => by
        have : (st ++ (g ++ PO.lst (l.map rowP) :: (G ++ k))) = (st ++ (g ++ PO.lst (l.map rowP) :: G)) ++ k := by simp
        rw [this]
        exact getS0
      refine fin (.lst (l.map rowP) :: (G ++ [.lst [rowP (.of (wordS (m / (0 + (i : Int) * 4 + 1))) (fsts l), r')]])) (.of (wordS (m / (0 + (i : Int) * 4 + 1))) (fsts l), r') (some (.ref (st ++ (g ++ PO.lst (l.map rowP) :: G)).length)) og (fun z hz => ?_) rn ?_
      · have := Hold.app (g := [.lst [rowP (.of (wordS (m / (0 + (i : Int) * 4 + 1))) (fsts l), r')]]) j3 z hz
        simpa using this
      simp only [b_L_gathered_3_s1, seqS, ifS, setS, augS, dropS, retS, retN, nxS, bkS, ctS, asgS, subS, R.toS, R.bind, R.of, opF, unF, varF, cstF, chF, isB, asB, andT, orT, notT, andF, orF, notF, ifF, nilA, consA, tupF, lstF, cbF, callF, bmF', truT, truV, nameG, nilG, consG, tupG, List.set_cons_zero, List.set_cons_succ, List.getElem?_cons_zero, List.getElem?_cons_succ, Option.bind_some, Option.bind_none, Option.map_some, Option.map_none, List.length_cons, List.length_nil, List.cons_append, List.nil_append, List.append_nil, if_true, if_false, ite_true, ite_false, Bool.false_eq_true, reduceIte, reduceCtorEq, List.map_cons, List.map_nil, Nat.sub_self, List.replicate_succ, List.replicate_zero, Nat.reduceSub, Nat.reduceAdd, Nat.reduceLT, Nat.reduceLeDiff, Nat.reduceEqDiff, Nat.reduceMul, Nat.reducePow, Int.reduceLT, Int.reduceLE, Int.reduceAdd, Int.reduceMul, Int.reduceSub, Int.reduceNeg, Int.reduceEq, Int.reducePow, Int.reduceMod, Int.reduceDiv, Int.reduceToNat, decide_true, decide_false, and_true, true_and, and_self, Option.some.injEq, addV, iaddV, subV, mulV, fdivV, modV, powV, negV, cmpV, isNonV, notNonV, idxV, at0, at1, at2, at3, at4, at5, seqAt, lstAt, lenV, isiV, typV, kb1, kb2, kb3, kb4, kb5, kb6, kb7, kb8, kb9, kb10, kb11, sliF, noO, someO, asI, slV, sizeLine_eq, hp', hcut, List.length_map, hg', tyOk, appendV, beq_self_eq_true, hut, appS, g0, g1, gG, big', lk', hw _ _ dv, jn]) (fun e s hP => gd_nil _)
  obtain ⟨g, us, a', b', rfl, rfl, hu, hn, hG', hH', hne'⟩ := h2
  refine ⟨_, g, st.length, us, ?_, ⟨some (.ref st.length), a', b', rfl⟩, hu, by simpa [intL] using hn, hG', hH'⟩
  have hp' : ∀ k, (st ++ k)[p]? = some (.lst (ts.map rowP)) := fun k => getOld hp
  simp only [b_L_gathered_3_s3, seqS, ifS, setS, augS, dropS, retS, retN, nxS, bkS, ctS, asgS, subS, R.toS, R.bind, R.of, opF, unF, varF, cstF, chF, isB, asB, andT, orT, notT, andF, orF, notF, ifF, nilA, consA, tupF, lstF, cbF, callF, bmF', truT, truV, nameG, nilG, consG, tupG, List.set_cons_zero, List.set_cons_succ, List.getElem?_cons_zero, List.getElem?_cons_succ, Option.bind_some, Option.bind_none, Option.map_some, Option.map_none, List.length_cons, List.length_nil, List.cons_append, List.nil_append, List.append_nil, if_true, if_false, ite_true, ite_false, Bool.false_eq_true, reduceIte, reduceCtorEq, List.map_cons, List.map_nil, Nat.sub_self, List.replicate_succ, List.replicate_zero, Nat.reduceSub, Nat.reduceAdd, Nat.reduceLT, Nat.reduceLeDiff, Nat.reduceEqDiff, Nat.reduceMul, Nat.reducePow, Int.reduceLT, Int.reduceLE, Int.reduceAdd, Int.reduceMul, Int.reduceSub, Int.reduceNeg, Int.reduceEq, Int.reducePow, Int.reduceMod, Int.reduceDiv, Int.reduceToNat, decide_true, decide_false, and_true, true_and, and_self, Option.some.injEq, addV, iaddV, subV, mulV, fdivV, modV, powV, negV, cmpV, isNonV, notNonV, idxV, at0, at1, at2, at3, at4, at5, seqAt, lstAt, lenV, isiV, typV, kb1, kb2, kb3, kb4, kb5, kb6, kb7, kb8, kb9, kb10, kb11, sizeLine_eq, forS, rng3I, gdOf, hp', List.length_map, hR, rs, Int.toNat_natCast, h1]
theorem F_gathered {ts : List Rw} {d p : Nat} {m : Int} {st : Store} (hm : 0 ≤ m) (hp : st[p]? = some (.lst (ts.map rowP))) (h0 : ts ≠ []) (hl : ts.length ≤ 80) (hG : Good pw 26 ts) (hpl : pw.length = 4) (hH : Hold st ts) :
    ∃ t g, F_L_gathered_3 [.ref p, .int m] st = .ok (rowP t) (st ++ g) ∧ t.1.ok = true ∧ t.1.depth ≤ 30 ∧ ofP pw t.1 ∧ Hold (st ++ g) [t] := by
  have hpos : 0 < ts.length := List.length_pos_iff.mpr h0
  have key := whS_wp (c := b_L_gathered_3_t2) (b := b_L_gathered_3_s3) (Q := fun r => ∃ (g : Store) (q : Nat) (t : Rw) (b c f : Option PV), r = .nx [some (.ref q), some (.int m), b, c, f] (st ++ g) ∧ (st ++ g)[q]? = some (.lst [rowP t]) ∧ t.1.ok = true ∧ t.1.depth ≤ 30 ∧ ofP pw t.1 ∧ Hold (st ++ g) [t])
    (P := fun e s => ∃ (g : Store) (q : Nat) (us : List Rw) (b c f : Option PV) (k : Nat), s = st ++ g ∧ e = [some (.ref q), some (.int m), b, c, f] ∧ s[q]? = some (.lst (us.map rowP)) ∧ us ≠ [] ∧ us.length ≤ 80 ∧ us.length ≤ 4 ^ k ∧ k ≤ 4 ∧ Good pw (30 - k) us ∧ Hold s us)
    (μ := fun e s => match e with
      | some (.ref q) :: _ => (match s[q]? with
        | some (.lst xs) => xs.length
        | _ => 0)
      | _ => 0) (e := [some (.ref p), some (.int m), none, none, none]) (st := st)
    ⟨[], p, ts, none, none, none, 4, (List.append_nil _).symm, rfl, hp, h0, hl, by omega, Nat.le_refl _, hG, hH⟩
    (by simp only [hp, List.length_map]; omega) (fun e s hP => by
      obtain ⟨g, q, us, b, c, f, k, rfl, rfl, hq, u0, u80, uk, k4, uG, uH⟩ := hP
      have upos : 0 < us.length := List.length_pos_iff.mpr u0
      refine ⟨decide (1 < (us.length : Int)), st ++ g, ?_, ?_⟩
      · simp only [b_L_gathered_3_t2, seqS, ifS, setS, augS, dropS, retS, retN, nxS, bkS, ctS, asgS, subS, R.toS, R.bind, R.of, opF, unF, varF, cstF, chF, isB, asB, andT, orT, notT, andF, orF, notF, ifF, nilA, consA, tupF, lstF, cbF, callF, bmF', truT, truV, nameG, nilG, consG, tupG, List.set_cons_zero, List.set_cons_succ, List.getElem?_cons_zero, List.getElem?_cons_succ, Option.bind_some, Option.bind_none, Option.map_some, Option.map_none, List.length_cons, List.length_nil, List.cons_append, List.nil_append, List.append_nil, if_true, if_false, ite_true, ite_false, Bool.false_eq_true, reduceIte, reduceCtorEq, List.map_cons, List.map_nil, Nat.sub_self, List.replicate_succ, List.replicate_zero, Nat.reduceSub, Nat.reduceAdd, Nat.reduceLT, Nat.reduceLeDiff, Nat.reduceEqDiff, Nat.reduceMul, Nat.reducePow, Int.reduceLT, Int.reduceLE, Int.reduceAdd, Int.reduceMul, Int.reduceSub, Int.reduceNeg, Int.reduceEq, Int.reducePow, Int.reduceMod, Int.reduceDiv, Int.reduceToNat, decide_true, decide_false, and_true, true_and, and_self, Option.some.injEq, addV, iaddV, subV, mulV, fdivV, modV, powV, negV, cmpV, isNonV, notNonV, idxV, at0, at1, at2, at3, at4, at5, seqAt, lstAt, lenV, isiV, typV, kb1, kb2, kb3, kb4, kb5, kb6, kb7, kb8, kb9, kb10, kb11, hq, List.length_map]
      by_cases big : 1 < (us.length : Int)
      · rw [if_pos (by simpa using big)]
        obtain ⟨e2, g2, r, vs, hb, ⟨b', c', f', rfl⟩, hr, hn, hvG, hvH⟩ := gat_round (b := b) (c := c) (f := f) hm hq u0 u80 uG hpl uH
        rw [hb]
        have kpos : 0 < k := by
          rcases Nat.eq_zero_or_pos k with rfl | h
          · simp at uk; omega
          · exact h
        obtain ⟨k', rfl⟩ : ∃ k', k = k' + 1 := ⟨k - 1, by omega⟩
        have u4 : us.length ≤ 4 * 4 ^ k' := by rw [Nat.pow_succ] at uk; omega
        refine ⟨⟨g ++ g2, r, vs, b', c', f', k', appS, rfl, hr, ?_, ?_, ?_, by omega, good_up hvG (by omega), hvH⟩, ?_⟩
        · intro q; rw [q, List.length_nil] at hn; omega
        · omega
        · omega
        · simp only [hr, hq, List.length_map]; omega
      · rw [if_neg (by simpa using big)]
        have h1 : us.length = 1 := by omega
        obtain ⟨t, rfl⟩ := List.length_eq_one_iff.mp h1
        have := uG t List.mem_cons_self
        exact ⟨g, q, t, b, c, f, rfl, hq, this.1, by omega, this.2.2, uH⟩)
  obtain ⟨g, q, t, b, c, f, hr, hq, t1, t2, t3, t4⟩ := key
  obtain ⟨g', f1, f2⟩ := run_any (n := 5) (body := b_L_gathered_3) (args := [.ref p, .int m]) (st := st) (g := g) (q := t) (by
    simp only [b_L_gathered_3, seqS, ifS, setS, augS, dropS, retS, retN, nxS, bkS, ctS, asgS, subS, R.toS, R.bind, R.of, opF, unF, varF, cstF, chF, isB, asB, andT, orT, notT, andF, orF, notF, ifF, nilA, consA, tupF, lstF, cbF, callF, bmF', truT, truV, nameG, nilG, consG, tupG, List.set_cons_zero, List.set_cons_succ, List.getElem?_cons_zero, List.getElem?_cons_succ, Option.bind_some, Option.bind_none, Option.map_some, Option.map_none, List.length_cons, List.length_nil, List.cons_append, List.nil_append, List.append_nil, if_true, if_false, ite_true, ite_false, Bool.false_eq_true, reduceIte, reduceCtorEq, List.map_cons, List.map_nil, Nat.sub_self, List.replicate_succ, List.replicate_zero, Nat.reduceSub, Nat.reduceAdd, Nat.reduceLT, Nat.reduceLeDiff, Nat.reduceEqDiff, Nat.reduceMul, Nat.reducePow, Int.reduceLT, Int.reduceLE, Int.reduceAdd, Int.reduceMul, Int.reduceSub, Int.reduceNeg, Int.reduceEq, Int.reducePow, Int.reduceMod, Int.reduceDiv, Int.reduceToNat, decide_true, decide_false, and_true, true_and, and_self, Option.some.injEq, idxV, at0, at1, at2, at3, at4, at5, seqAt, lstAt, lenV, isiV, typV, kb1, kb2, kb3, kb4, kb5, kb6, kb7, kb8, kb9, kb10, kb11, hr, hq]) t4
  exact ⟨t, g', f1, t1, t2, t3, f2⟩
theorem cut_le (l : List Nat) (lo hi : Option Int) : (cutS (S l) lo hi).length ≤ l.length := by
  rw [S_cut, S_len, List.length_take, List.length_drop]
  omega
theorem F_pool {m : Int} {st : Store} (h0 : 0 ≤ m) : ∃ pw : List Str, pw.length = 4 ∧ F_L_pool [.int m] st = .ok (.ref st.length) (st ++ [.lst (pw.map PV.str)]) := by
  have hw : ∀ s, F_L_word [.int m] s = .ok (.str (S (wordL m))) s := fun s => F_word h0
  have wl := wordL_len m
  have c7 : (0 < (7 : Int) ∧ (7 : Int).natAbs.log2 < 9000) := by decide
  have e1 : ("q" : Str).length = 1 := rfl
  have e2 : ("z" : Str).length = 1 := rfl
  obtain ⟨n, hn⟩ : ∃ n, n = (wordL m).length := ⟨_, rfl⟩
  have npos : (0 : Int) < ((wordL m).length : Int) := by omega
  have n16 : (wordL m).length ≤ 16777216 := by omega
  obtain ⟨at', hat⟩ : ∃ a, a = m / 7 % ((wordL m).length : Int) := ⟨_, rfl⟩
  obtain ⟨A, hA⟩ : ∃ A, A = cutS (S (wordL m)) none (some at') := ⟨_, rfl⟩
  obtain ⟨B, hB⟩ : ∃ A, A = cutS (S (wordL m)) (some (at' + 1)) none := ⟨_, rfl⟩
  obtain ⟨C, hC⟩ : ∃ A, A = cutS (S (wordL m)) none (some 7) := ⟨_, rfl⟩
  have lA : A.length ≤ 8 := by rw [hA]; exact Nat.le_trans (cut_le _ _ _) wl.2.1
  have lB : B.length ≤ 8 := by rw [hB]; exact Nat.le_trans (cut_le _ _ _) wl.2.1
  have q1 : A.length + 1 ≤ 16777216 := by omega
  have q2 : A.length + 1 + B.length ≤ 16777216 := by omega
  have q3 : (wordL m).length + 1 ≤ 16777216 := by omega
  have pure : ∀ l : List Str, puresP (l.map PV.str) = true := fun l => pures_iff.mpr fun x hx => by
    obtain ⟨t, _, rfl⟩ := List.mem_map.mp hx
    rfl
  unfold F_L_pool
  by_cases h8 : ((wordL m).length : Int) < 8
  · refine ⟨[S (wordL m), A ++ "q" ++ B, A ++ "z" ++ B, S (wordL m) ++ "z"], rfl, ?_⟩
    refine run_new (g := [.lst [.str (S (wordL m)), .str (A ++ "q" ++ B), .str (A ++ "z" ++ B)], .lst [.str (S (wordL m) ++ "z")], .lst [.str (S (wordL m)), .str (A ++ "q" ++ B), .str (A ++ "z" ++ B), .str (S (wordL m) ++ "z")]]) (r := st.length + 2) ?_ (by rw [getS]; rfl) (by omega) rfl
    simp only [b_L_pool, seqS, ifS, setS, augS, dropS, retS, retN, nxS, bkS, ctS, asgS, subS, R.toS, R.bind, R.of, opF, unF, varF, cstF, chF, isB, asB, andT, orT, notT, andF, orF, notF, ifF, nilA, consA, tupF, lstF, cbF, callF, bmF', truT, truV, nameG, nilG, consG, tupG, List.set_cons_zero, List.set_cons_succ, List.getElem?_cons_zero, List.getElem?_cons_succ, Option.bind_some, Option.bind_none, Option.map_some, Option.map_none, List.length_cons, List.length_nil, List.cons_append, List.nil_append, List.append_nil, if_true, if_false, ite_true, ite_false, Bool.false_eq_true, reduceIte, reduceCtorEq, List.map_cons, List.map_nil, Nat.sub_self, List.replicate_succ, List.replicate_zero, Nat.reduceSub, Nat.reduceAdd, Nat.reduceLT, Nat.reduceLeDiff, Nat.reduceEqDiff, Nat.reduceMul, Nat.reducePow, Int.reduceLT, Int.reduceLE, Int.reduceAdd, Int.reduceMul, Int.reduceSub, Int.reduceNeg, Int.reduceEq, Int.reducePow, Int.reduceMod, Int.reduceDiv, Int.reduceToNat, decide_true, decide_false, and_true, true_and, and_self, Option.some.injEq, addV, iaddV, subV, mulV, fdivV, modV, powV, negV, cmpV, isNonV, notNonV, idxV, at0, at1, at2, at3, at4, at5, seqAt, lstAt, lenV, isiV, typV, kb1, kb2, kb3, kb4, kb5, kb6, kb7, kb8, kb9, kb10, kb11, sliF, noO, someO, asI, slV, sizeLine_eq, hw, S_len, c7, npos, ← hat, n16, ← hA, ← hB, e1, e2, PySem.Str.length_append, q1, q2, h8, q3, getS0, getS, lenS, appS]
  · refine ⟨[S (wordL m), A ++ "q" ++ B, A ++ "z" ++ B, C], rfl, ?_⟩
    refine run_new (g := [.lst [.str (S (wordL m)), .str (A ++ "q" ++ B), .str (A ++ "z" ++ B)], .lst [.str C], .lst [.str (S (wordL m)), .str (A ++ "q" ++ B), .str (A ++ "z" ++ B), .str C]]) (r := st.length + 2) ?_ (by rw [getS]; rfl) (by omega) rfl
    simp only [b_L_pool, seqS, ifS, setS, augS, dropS, retS, retN, nxS, bkS, ctS, asgS, subS, R.toS, R.bind, R.of, opF, unF, varF, cstF, chF, isB, asB, andT, orT, notT, andF, orF, notF, ifF, nilA, consA, tupF, lstF, cbF, callF, bmF', truT, truV, nameG, nilG, consG, tupG, List.set_cons_zero, List.set_cons_succ, List.getElem?_cons_zero, List.getElem?_cons_succ, Option.bind_some, Option.bind_none, Option.map_some, Option.map_none, List.length_cons, List.length_nil, List.cons_append, List.nil_append, List.append_nil, if_true, if_false, ite_true, ite_false, Bool.false_eq_true, reduceIte, reduceCtorEq, List.map_cons, List.map_nil, Nat.sub_self, List.replicate_succ, List.replicate_zero, Nat.reduceSub, Nat.reduceAdd, Nat.reduceLT, Nat.reduceLeDiff, Nat.reduceEqDiff, Nat.reduceMul, Nat.reducePow, Int.reduceLT, Int.reduceLE, Int.reduceAdd, Int.reduceMul, Int.reduceSub, Int.reduceNeg, Int.reduceEq, Int.reducePow, Int.reduceMod, Int.reduceDiv, Int.reduceToNat, decide_true, decide_false, and_true, true_and, and_self, Option.some.injEq, addV, iaddV, subV, mulV, fdivV, modV, powV, negV, cmpV, isNonV, notNonV, idxV, at0, at1, at2, at3, at4, at5, seqAt, lstAt, lenV, isiV, typV, kb1, kb2, kb3, kb4, kb5, kb6, kb7, kb8, kb9, kb10, kb11, sliF, noO, someO, asI, slV, sizeLine_eq, hw, S_len, c7, npos, ← hat, n16, ← hA, ← hB, ← hC, e1, e2, PySem.Str.length_append, q1, q2, h8, q3, getS0, getS, lenS, appS]
end
end Ho
end
end FL
end
section
set_option linter.all false
set_option maxRecDepth 100000
namespace FL
open PySem PySem.Spec PyProof.Rows L2
noncomputable section
namespace Pk02
open Ho
theorem cut80 {ns : List Int} : cutP (ns.map PV.int) none (some 80) = (ns.take 80).map PV.int := by
  unfold cutP
  rw [sIx_some (by decide), HT.sIx_none, List.map_take, List.drop_zero, Nat.sub_zero]
  show List.take (min 80 _) _ = List.take 80 _
  rcases Nat.le_total 80 (ns.map PV.int).length with q | q
  · rw [Nat.min_eq_left q]
  · rw [Nat.min_eq_right q, List.take_of_length_le (Nat.le_refl _), List.take_of_length_le q]
theorem ex_nx {f g : FS} {e e1 : Env} {s s1 : Store} {v : PV} (h : f e s = .nx e1 s1) (k : ∃ z, g e1 s1 = .rt v z) : ∃ z, seqS f g e s = .rt v z := by
  obtain ⟨z, hz⟩ := k
  exact ⟨z, (seqS_nx h).trans hz⟩

theorem rng1_ok {f : FA} {e : Env} {s : Store} {j : Nat} (h : f e s = .ok [.int (j : Int)] s) (hj : j < 1000000) : rng1I f e s = .ok ⟨intL 0 1 j, []⟩ s := by
  unfold rng1I
  rw [h, bind_ok]
  show (if -(2 ^ 62) ≤ (j : Int) ∧ (j : Int) < 2 ^ 62 then _ else _) = _
  rw [if_pos ⟨by omega, by omega⟩, Int.toNat_natCast]
theorem fin_ok {ns : List Int} {m : Int} {r0 : Nat} {pw : List Str} (pl : pw.length = 4) : ∀ (t : Rw) (k : Option PV) (s : Store), t.1.depth ≤ 64 → ofP pw t.1 → Hold s [t] → ∃ z, (seqS (setS 5 (callF 1 (F_holes 64) [] (consA (opF idxV (varF 4) (cstF (.int 0))) nilA)))
    (seqS (ifS (orT (notT (truT (cbF isiV (consA (varF 5) (consA (cstF (.ty "list")) nilA))))) (isB (opF neV (cbF lenV (consA (varF 5) nilA)) (cbF lenV (consA (opF idxV (varF 4) (cstF (.int 1))) nilA))))) (retS (cstF (.bl false))) nxS)
    (seqS (forS (rng1I (consA (cbF lenV (consA (varF 5) nilA)) nilA)) (nameG 6) b_law_k02_s1)
    (retS (cstF (.bl true)))))) [some (.frz (ns.map PV.int)), some (.int m), some (.ref 0), some (.ref r0), some (rowP t), none, k] s = .rt (.bl true) z := fun t k s h1 h2 h3 => by
    have hf := F_holes_ok (pw := pw) (by omega) 64 t.1 s h1 h2
    have k2 := hol_ok t.1 h2
    have l2 := nd_len k2.1 k2.2
    have hh := h3 t List.mem_cons_self
    have hh' := getOld (g := [.lst ((hol t.1).map PV.str)]) hh
    obtain ⟨e', st', f1, f2⟩ := forL_inv (gd := []) (g := nameG 6) (b := b_law_k02_s1) (xs := intL 0 1 (hol t.1).length)
      (fun i e s' => s' = s ++ [.lst ((hol t.1).map PV.str)] ∧ ∃ v, e = [some (.frz (ns.map PV.int)), some (.int m), some (.ref 0), some (.ref r0), some (rowP t), some (.ref s.length), v])
      (e := [some (.frz (ns.map PV.int)), some (.int m), some (.ref 0), some (.ref r0), some (rowP t), some (.ref s.length), k]) (st := s ++ [.lst ((hol t.1).map PV.str)]) ⟨rfl, _, rfl⟩
      (fun i x e s' hx hP => by
        obtain ⟨rfl, v, rfl⟩ := hP
        have hi : i < (hol t.1).length := by
          have := (List.getElem?_eq_some_iff.mp hx).1
          simpa [intL] using this
        have hv : x = .int (0 + (i : Nat) * 1) := by
          unfold intL at hx
          rw [List.getElem?_map, List.getElem?_range hi] at hx
          simpa using hx.symm
        subst hv
        have ha : atI ((hol t.1).map PV.str) (0 + (i : Int) * 1) = some (.str ((hol t.1)[i])) := atI_nat' (by omega) (by
          rw [show (0 + (i : Int) * 1).toNat = i by omega, List.getElem?_map, List.getElem?_eq_getElem hi]; rfl)
        refine ⟨gd_nil _, _, rfl, [some (.frz (ns.map PV.int)), some (.int m), some (.ref 0), some (.ref r0), some (rowP t), some (.ref s.length), some (.int (0 + (i : Nat) * 1))], s ++ [.lst ((hol t.1).map PV.str)], ?_, rfl, _, rfl⟩
        simp only [rowP, b_law_k02_s1, seqS, ifS, setS, augS, dropS, retS, retN, nxS, bkS, ctS, asgS, subS, R.toS, R.bind, R.of, opF, unF, varF, cstF, chF, isB, asB, andT, orT, notT, andF, orF, notF, ifF, nilA, consA, tupF, lstF, cbF, callF, bmF', truT, truV, nameG, nilG, consG, tupG, List.set_cons_zero, List.set_cons_succ, List.getElem?_cons_zero, List.getElem?_cons_succ, Option.bind_some, Option.bind_none, Option.map_some, Option.map_none, List.length_cons, List.length_nil, List.cons_append, List.nil_append, List.append_nil, if_true, if_false, ite_true, ite_false, Bool.false_eq_true, reduceIte, reduceCtorEq, List.map_cons, List.map_nil, Nat.sub_self, List.replicate_succ, List.replicate_zero, Nat.reduceSub, Nat.reduceAdd, Nat.reduceLT, Nat.reduceLeDiff, Nat.reduceEqDiff, Nat.reduceMul, Nat.reducePow, Int.reduceLT, Int.reduceLE, Int.reduceAdd, Int.reduceMul, Int.reduceSub, Int.reduceNeg, Int.reduceEq, Int.reducePow, Int.reduceMod, Int.reduceDiv, Int.reduceToNat, decide_true, decide_false, and_true, true_and, and_self, Option.some.injEq, idxV, at0, at1, at2, at3, at4, at5, seqAt, lstAt, lenV, isiV, typV, kb1, kb2, kb3, kb4, kb5, kb6, kb7, kb8, kb9, kb10, kb11, neV, eqB, scEq, getS0, hh', ha, Bool.not_true]) (fun e s' _ => gd_nil _)
    obtain ⟨rfl, v, rfl⟩ := f2
    have hr := rng1_ok (f := consA (cbF lenV (consA (varF 5) nilA)) nilA) (e := [some (.frz (ns.map PV.int)), some (.int m), some (.ref 0), some (.ref r0), some (rowP t), some (.ref s.length), k]) (s := s ++ [.lst ((hol t.1).map PV.str)]) (j := (hol t.1).length) (by simp only [seqS, ifS, setS, augS, dropS, retS, retN, nxS, bkS, ctS, asgS, subS, R.toS, R.bind, R.of, opF, unF, varF, cstF, chF, isB, asB, andT, orT, notT, andF, orF, notF, ifF, nilA, consA, tupF, lstF, cbF, callF, bmF', truT, truV, nameG, nilG, consG, tupG, List.set_cons_zero, List.set_cons_succ, List.getElem?_cons_zero, List.getElem?_cons_succ, Option.bind_some, Option.bind_none, Option.map_some, Option.map_none, List.length_cons, List.length_nil, List.cons_append, List.nil_append, List.append_nil, if_true, if_false, ite_true, ite_false, Bool.false_eq_true, reduceIte, reduceCtorEq, List.map_cons, List.map_nil, Nat.sub_self, List.replicate_succ, List.replicate_zero, Nat.reduceSub, Nat.reduceAdd, Nat.reduceLT, Nat.reduceLeDiff, Nat.reduceEqDiff, Nat.reduceMul, Nat.reducePow, Int.reduceLT, Int.reduceLE, Int.reduceAdd, Int.reduceMul, Int.reduceSub, Int.reduceNeg, Int.reduceEq, Int.reducePow, Int.reduceMod, Int.reduceDiv, Int.reduceToNat, decide_true, decide_false, and_true, true_and, and_self, Option.some.injEq, idxV, at0, at1, at2, at3, at4, at5, seqAt, lstAt, lenV, isiV, typV, kb1, kb2, kb3, kb4, kb5, kb6, kb7, kb8, kb9, kb10, kb11, getS0, List.length_map]) (by omega)
    refine ⟨s ++ [.lst ((hol t.1).map PV.str)], ?_⟩
    refine (seqS_nx (e1 := [some (.frz (ns.map PV.int)), some (.int m), some (.ref 0), some (.ref r0), some (rowP t), some (.ref s.length), k]) (s1 := s ++ [.lst ((hol t.1).map PV.str)]) ?_).trans ?_
    · simp only [seqS, ifS, setS, augS, dropS, retS, retN, nxS, bkS, ctS, asgS, subS, R.toS, R.bind, R.of, opF, unF, varF, cstF, chF, isB, asB, andT, orT, notT, andF, orF, notF, ifF, nilA, consA, tupF, lstF, cbF, callF, bmF', truT, truV, nameG, nilG, consG, tupG, List.set_cons_zero, List.set_cons_succ, List.getElem?_cons_zero, List.getElem?_cons_succ, Option.bind_some, Option.bind_none, Option.map_some, Option.map_none, List.length_cons, List.length_nil, List.cons_append, List.nil_append, List.append_nil, if_true, if_false, ite_true, ite_false, Bool.false_eq_true, reduceIte, reduceCtorEq, List.map_cons, List.map_nil, Nat.sub_self, List.replicate_succ, List.replicate_zero, Nat.reduceSub, Nat.reduceAdd, Nat.reduceLT, Nat.reduceLeDiff, Nat.reduceEqDiff, Nat.reduceMul, Nat.reducePow, Int.reduceLT, Int.reduceLE, Int.reduceAdd, Int.reduceMul, Int.reduceSub, Int.reduceNeg, Int.reduceEq, Int.reducePow, Int.reduceMod, Int.reduceDiv, Int.reduceToNat, decide_true, decide_false, and_true, true_and, and_self, Option.some.injEq, idxV, at0, at1, at2, at3, at4, at5, seqAt, lstAt, lenV, isiV, typV, kb1, kb2, kb3, kb4, kb5, kb6, kb7, kb8, kb9, kb10, kb11, rowP, hf]
    refine (seqS_nx (e1 := [some (.frz (ns.map PV.int)), some (.int m), some (.ref 0), some (.ref r0), some (rowP t), some (.ref s.length), k]) (s1 := s ++ [.lst ((hol t.1).map PV.str)]) ?_).trans ?_
    · simp only [seqS, ifS, setS, augS, dropS, retS, retN, nxS, bkS, ctS, asgS, subS, R.toS, R.bind, R.of, opF, unF, varF, cstF, chF, isB, asB, andT, orT, notT, andF, orF, notF, ifF, nilA, consA, tupF, lstF, cbF, callF, bmF', truT, truV, nameG, nilG, consG, tupG, List.set_cons_zero, List.set_cons_succ, List.getElem?_cons_zero, List.getElem?_cons_succ, Option.bind_some, Option.bind_none, Option.map_some, Option.map_none, List.length_cons, List.length_nil, List.cons_append, List.nil_append, List.append_nil, if_true, if_false, ite_true, ite_false, Bool.false_eq_true, reduceIte, reduceCtorEq, List.map_cons, List.map_nil, Nat.sub_self, List.replicate_succ, List.replicate_zero, Nat.reduceSub, Nat.reduceAdd, Nat.reduceLT, Nat.reduceLeDiff, Nat.reduceEqDiff, Nat.reduceMul, Nat.reducePow, Int.reduceLT, Int.reduceLE, Int.reduceAdd, Int.reduceMul, Int.reduceSub, Int.reduceNeg, Int.reduceEq, Int.reducePow, Int.reduceMod, Int.reduceDiv, Int.reduceToNat, decide_true, decide_false, and_true, true_and, and_self, Option.some.injEq, idxV, at0, at1, at2, at3, at4, at5, seqAt, lstAt, lenV, isiV, typV, kb1, kb2, kb3, kb4, kb5, kb6, kb7, kb8, kb9, kb10, kb11, rowP, neV, eqB, scEq, getS0, hh', List.length_map, Bool.not_true]
    refine (seqS_nx (e1 := [some (.frz (ns.map PV.int)), some (.int m), some (.ref 0), some (.ref r0), some (rowP t), some (.ref s.length), v]) (s1 := s ++ [.lst ((hol t.1).map PV.str)]) ?_).trans rfl
    · unfold forS
      rw [hr, toS_ok]
      exact f1
theorem law_ok : ∀ ns : List Int, ns.length ≤ 63 → ∃ st, F_law_k02 [.frz (ns.map PV.int)] [] = .ok (.bl true) st := by
  intro ns hns
  suffices h : ∃ g, b_law_k02 [some (.frz (ns.map PV.int)), none, none, none, none, none, none] [] = .rt (.bl true) g by
    obtain ⟨g, h⟩ := h
    exact ⟨[], run_rt (g := g) (by simpa using h) rfl⟩
  obtain ⟨m, hm⟩ : ∃ m, m = mixed (cellAt ns 0) 91 := ⟨_, rfl⟩
  have qm : 0 ≤ m ∧ m < 2147483629 := by rw [hm]; exact mixed_lt _ _
  have hw : ∀ x s, 0 ≤ x → F_L_word [.int x] s = .ok (.str (wordS x)) s := fun x s h => F_word h
  have c3 : (0 < (3 : Int) ∧ (3 : Int).natAbs.log2 < 9000) := by decide
  have c1 : (0 < (116 : Int) ∧ (116 : Int).natAbs.log2 < 9000) := by decide
  have c5 : (0 < (5 : Int) ∧ (5 : Int).natAbs.log2 < 9000) := by decide
  have c4 : (0 < (4 : Int) ∧ (4 : Int).natAbs.log2 < 9000) := by decide
  unfold b_law_k02
  refine ex_nx (e1 := [some (.frz (ns.map PV.int)), some (.int m), none, none, none, none, none]) (s1 := []) ?_ ?_
  · have hc : ∀ s, F_L_cell_at [.frz (ns.map PV.int), .int 0] s = .ok (.int (cellAt ns 0)) s := fun s => F_cell (k := 0)
    have hx := F_mixed (c := cellAt ns 0) (k := 91) (st := []) (by decide) (by decide)
    rw [← hm] at hx
    simp only [seqS, ifS, setS, augS, dropS, retS, retN, nxS, bkS, ctS, asgS, subS, R.toS, R.bind, R.of, opF, unF, varF, cstF, chF, isB, asB, andT, orT, notT, andF, orF, notF, ifF, nilA, consA, tupF, lstF, cbF, callF, bmF', truT, truV, nameG, nilG, consG, tupG, List.set_cons_zero, List.set_cons_succ, List.getElem?_cons_zero, List.getElem?_cons_succ, Option.bind_some, Option.bind_none, Option.map_some, Option.map_none, List.length_cons, List.length_nil, List.cons_append, List.nil_append, List.append_nil, if_true, if_false, ite_true, ite_false, Bool.false_eq_true, reduceIte, reduceCtorEq, List.map_cons, List.map_nil, Nat.sub_self, List.replicate_succ, List.replicate_zero, Nat.reduceSub, Nat.reduceAdd, Nat.reduceLT, Nat.reduceLeDiff, Nat.reduceEqDiff, Nat.reduceMul, Nat.reducePow, Int.reduceLT, Int.reduceLE, Int.reduceAdd, Int.reduceMul, Int.reduceSub, Int.reduceNeg, Int.reduceEq, Int.reducePow, Int.reduceMod, Int.reduceDiv, Int.reduceToNat, decide_true, decide_false, and_true, true_and, and_self, Option.some.injEq, hc, hx]
  obtain ⟨pw, pl, hpool⟩ := F_pool (m := m / 3) (st := []) (by omega)
  refine ex_nx (e1 := [some (.frz (ns.map PV.int)), some (.int m), some (.ref 0), none, none, none, none]) (s1 := [.lst (pw.map PV.str)]) ?_ ?_
  · simp only [seqS, ifS, setS, augS, dropS, retS, retN, nxS, bkS, ctS, asgS, subS, R.toS, R.bind, R.of, opF, unF, varF, cstF, chF, isB, asB, andT, orT, notT, andF, orF, notF, ifF, nilA, consA, tupF, lstF, cbF, callF, bmF', truT, truV, nameG, nilG, consG, tupG, List.set_cons_zero, List.set_cons_succ, List.getElem?_cons_zero, List.getElem?_cons_succ, Option.bind_some, Option.bind_none, Option.map_some, Option.map_none, List.length_cons, List.length_nil, List.cons_append, List.nil_append, List.append_nil, if_true, if_false, ite_true, ite_false, Bool.false_eq_true, reduceIte, reduceCtorEq, List.map_cons, List.map_nil, Nat.sub_self, List.replicate_succ, List.replicate_zero, Nat.reduceSub, Nat.reduceAdd, Nat.reduceLT, Nat.reduceLeDiff, Nat.reduceEqDiff, Nat.reduceMul, Nat.reducePow, Int.reduceLT, Int.reduceLE, Int.reduceAdd, Int.reduceMul, Int.reduceSub, Int.reduceNeg, Int.reduceEq, Int.reducePow, Int.reduceMod, Int.reduceDiv, Int.reduceToNat, decide_true, decide_false, and_true, true_and, and_self, Option.some.injEq, addV, iaddV, subV, mulV, fdivV, modV, powV, negV, cmpV, isNonV, notNonV, c3, hpool]
  have cl : (ns.take 80).length ≤ 80 := by rw [List.length_take]; omega
  obtain ⟨ts0, g0, r0, hp, hr0, hH0, ht0, hG0, hr2, hne0⟩ := F_piled (cs := ns.take 80) (p := 1) (q := 0) (st := [.lst (pw.map PV.str), .lst ((ns.take 80).map PV.int)]) (pw := pw) rfl rfl pl cl
  refine ex_nx (e1 := [some (.frz (ns.map PV.int)), some (.int m), some (.ref 0), some (.ref r0), none, none, none]) (s1 := [.lst (pw.map PV.str), .lst ((ns.take 80).map PV.int)] ++ g0) ?_ ?_
  · simp only [seqS, ifS, setS, augS, dropS, retS, retN, nxS, bkS, ctS, asgS, subS, R.toS, R.bind, R.of, opF, unF, varF, cstF, chF, isB, asB, andT, orT, notT, andF, orF, notF, ifF, nilA, consA, tupF, lstF, cbF, callF, bmF', truT, truV, nameG, nilG, consG, tupG, List.set_cons_zero, List.set_cons_succ, List.getElem?_cons_zero, List.getElem?_cons_succ, Option.bind_some, Option.bind_none, Option.map_some, Option.map_none, List.length_cons, List.length_nil, List.cons_append, List.nil_append, List.append_nil, if_true, if_false, ite_true, ite_false, Bool.false_eq_true, reduceIte, reduceCtorEq, List.map_cons, List.map_nil, Nat.sub_self, List.replicate_succ, List.replicate_zero, Nat.reduceSub, Nat.reduceAdd, Nat.reduceLT, Nat.reduceLeDiff, Nat.reduceEqDiff, Nat.reduceMul, Nat.reducePow, Int.reduceLT, Int.reduceLE, Int.reduceAdd, Int.reduceMul, Int.reduceSub, Int.reduceNeg, Int.reduceEq, Int.reducePow, Int.reduceMod, Int.reduceDiv, Int.reduceToNat, decide_true, decide_false, and_true, true_and, and_self, Option.some.injEq, sliF, noO, someO, asI, slV, idxV, at0, at1, at2, at3, at4, at5, seqAt, lstAt, lenV, isiV, typV, kb1, kb2, kb3, kb4, kb5, kb6, kb7, kb8, kb9, kb10, kb11, cut80] at hp ⊢
    simp only [hp]
  have pl0 : ([.lst (pw.map PV.str), .lst ((ns.take 80).map PV.int)] ++ g0 : Store)[0]? = some (.lst (pw.map PV.str)) := rfl
  generalize ([.lst (pw.map PV.str), .lst ((ns.take 80).map PV.int)] ++ g0 : Store) = s2 at hr0 hH0 pl0 hp ⊢
  clear hp hr2
  have step : ∃ ts s3, (ifS (isB (opF eqV (cbF lenV (consA (varF 3) nilA)) (cstF (.int 0)))) (dropS (bmF' "list" appendV (varF 3) (consA (callF 3 F_L_leaf_3 [] (consA (cstF (.int 0)) (consA (varF 1) (consA (varF 2) nilA)))) nilA))) nxS) [some (.frz (ns.map PV.int)), some (.int m), some (.ref 0), some (.ref r0), none, none, none] s2 = .nx [some (.frz (ns.map PV.int)), some (.int m), some (.ref 0), some (.ref r0), none, none, none] s3 ∧ s3[r0]? = some (.lst (ts.map rowP)) ∧ Hold s3 ts ∧ ts ≠ [] ∧ ts.length ≤ 80 ∧ Good pw 26 ts := by
    by_cases h0 : ts0 = []
    · subst h0
      obtain ⟨G, t, r', t1, t2, t3, t4, t5, t6⟩ := F_leaf (c := 0) (m := m) (r := 0) (st := s2) (pw := pw) qm.1 (by omega) pl0 pl
      have rl := (List.getElem?_eq_some_iff.mp hr0).1
      have gr := getOld (g := G) hr0
      have nr : ∀ q ∈ [(t, r')], q.2 ≠ r0 := fun z hz => by
        rw [List.mem_singleton] at hz
        subst hz
        show r' ≠ r0
        omega
      refine ⟨[(t, r')], (s2 ++ G).set r0 (.lst [rowP (t, r')]), ?_, set_at gr, Hold.set t3 nr, by simp, by simp, good_one ⟨t5, by show t.depth ≤ 26; omega, t6⟩⟩
      rw [List.map_nil] at hr0 gr
      simp only [seqS, ifS, setS, augS, dropS, retS, retN, nxS, bkS, ctS, asgS, subS, R.toS, R.bind, R.of, opF, unF, varF, cstF, chF, isB, asB, andT, orT, notT, andF, orF, notF, ifF, nilA, consA, tupF, lstF, cbF, callF, bmF', truT, truV, nameG, nilG, consG, tupG, List.set_cons_zero, List.set_cons_succ, List.getElem?_cons_zero, List.getElem?_cons_succ, Option.bind_some, Option.bind_none, Option.map_some, Option.map_none, List.length_cons, List.length_nil, List.cons_append, List.nil_append, List.append_nil, if_true, if_false, ite_true, ite_false, Bool.false_eq_true, reduceIte, reduceCtorEq, List.map_cons, List.map_nil, Nat.sub_self, List.replicate_succ, List.replicate_zero, Nat.reduceSub, Nat.reduceAdd, Nat.reduceLT, Nat.reduceLeDiff, Nat.reduceEqDiff, Nat.reduceMul, Nat.reducePow, Int.reduceLT, Int.reduceLE, Int.reduceAdd, Int.reduceMul, Int.reduceSub, Int.reduceNeg, Int.reduceEq, Int.reducePow, Int.reduceMod, Int.reduceDiv, Int.reduceToNat, decide_true, decide_false, and_true, true_and, and_self, Option.some.injEq, idxV, at0, at1, at2, at3, at4, at5, seqAt, lstAt, lenV, isiV, typV, kb1, kb2, kb3, kb4, kb5, kb6, kb7, kb8, kb9, kb10, kb11, eqV, neV, eqB, scEq, t1, t2, t3, t4, t5, t6, t7, t8, t9, t10, t11, t12, t13, t14, t15, t16, hr0, gr, t1, tyOk, appendV, beq_self_eq_true, sizeLine_eq, Int.ofNat_zero, Int.natCast_zero]
    · have hpos : 0 < ts0.length := List.length_pos_iff.mpr h0
      have e : ¬ (ts0.length : Int) = 0 := by omega
      refine ⟨ts0, s2, ?_, hr0, hH0, h0, by omega, hG0⟩
      simp only [seqS, ifS, setS, augS, dropS, retS, retN, nxS, bkS, ctS, asgS, subS, R.toS, R.bind, R.of, opF, unF, varF, cstF, chF, isB, asB, andT, orT, notT, andF, orF, notF, ifF, nilA, consA, tupF, lstF, cbF, callF, bmF', truT, truV, nameG, nilG, consG, tupG, List.set_cons_zero, List.set_cons_succ, List.getElem?_cons_zero, List.getElem?_cons_succ, Option.bind_some, Option.bind_none, Option.map_some, Option.map_none, List.length_cons, List.length_nil, List.cons_append, List.nil_append, List.append_nil, if_true, if_false, ite_true, ite_false, Bool.false_eq_true, reduceIte, reduceCtorEq, List.map_cons, List.map_nil, Nat.sub_self, List.replicate_succ, List.replicate_zero, Nat.reduceSub, Nat.reduceAdd, Nat.reduceLT, Nat.reduceLeDiff, Nat.reduceEqDiff, Nat.reduceMul, Nat.reducePow, Int.reduceLT, Int.reduceLE, Int.reduceAdd, Int.reduceMul, Int.reduceSub, Int.reduceNeg, Int.reduceEq, Int.reducePow, Int.reduceMod, Int.reduceDiv, Int.reduceToNat, decide_true, decide_false, and_true, true_and, and_self, Option.some.injEq, idxV, at0, at1, at2, at3, at4, at5, seqAt, lstAt, lenV, isiV, typV, kb1, kb2, kb3, kb4, kb5, kb6, kb7, kb8, kb9, kb10, kb11, eqV, neV, eqB, scEq, t1, t2, t3, t4, t5, t6, t7, t8, t9, t10, t11, t12, t13, t14, t15, t16, hr0, List.length_map, e]
  obtain ⟨ts, s3, hs, hr3, hH3, h0, hl, hG⟩ := step
  refine ex_nx hs ?_
  obtain ⟨t, g4, ht, tok, td, tP, tH⟩ := F_gathered (m := m) (p := r0) (st := s3) (pw := pw) (d := 26) qm.1 hr3 h0 hl hG pl hH3
  refine ex_nx (e1 := [some (.frz (ns.map PV.int)), some (.int m), some (.ref 0), some (.ref r0), some (rowP t), none, none]) (s1 := s3 ++ g4) ?_ ?_
  · simp only [seqS, ifS, setS, augS, dropS, retS, retN, nxS, bkS, ctS, asgS, subS, R.toS, R.bind, R.of, opF, unF, varF, cstF, chF, isB, asB, andT, orT, notT, andF, orF, notF, ifF, nilA, consA, tupF, lstF, cbF, callF, bmF', truT, truV, nameG, nilG, consG, tupG, List.set_cons_zero, List.set_cons_succ, List.getElem?_cons_zero, List.getElem?_cons_succ, Option.bind_some, Option.bind_none, Option.map_some, Option.map_none, List.length_cons, List.length_nil, List.cons_append, List.nil_append, List.append_nil, if_true, if_false, ite_true, ite_false, Bool.false_eq_true, reduceIte, reduceCtorEq, List.map_cons, List.map_nil, Nat.sub_self, List.replicate_succ, List.replicate_zero, Nat.reduceSub, Nat.reduceAdd, Nat.reduceLT, Nat.reduceLeDiff, Nat.reduceEqDiff, Nat.reduceMul, Nat.reducePow, Int.reduceLT, Int.reduceLE, Int.reduceAdd, Int.reduceMul, Int.reduceSub, Int.reduceNeg, Int.reduceEq, Int.reducePow, Int.reduceMod, Int.reduceDiv, Int.reduceToNat, decide_true, decide_false, and_true, true_and, and_self, Option.some.injEq, ht]
  generalize s3 ++ g4 = s4 at tH ⊢
  have fin := fun (t : Rw) (k : Option PV) (s : Store) => fin_ok (ns := ns) (m := m) (r0 := r0) (pw := pw) pl t k s
  by_cases big : m / 116 % 2 = 1
  case neg =>
    refine ex_nx (e1 := [some (.frz (ns.map PV.int)), some (.int m), some (.ref 0), some (.ref r0), some (rowP t), none, none]) (s1 := s4) ?_ (fin t none s4 (by omega) tP tH)
    simp only [seqS, ifS, setS, augS, dropS, retS, retN, nxS, bkS, ctS, asgS, subS, R.toS, R.bind, R.of, opF, unF, varF, cstF, chF, isB, asB, andT, orT, notT, andF, orF, notF, ifF, nilA, consA, tupF, lstF, cbF, callF, bmF', truT, truV, nameG, nilG, consG, tupG, List.set_cons_zero, List.set_cons_succ, List.getElem?_cons_zero, List.getElem?_cons_succ, Option.bind_some, Option.bind_none, Option.map_some, Option.map_none, List.length_cons, List.length_nil, List.cons_append, List.nil_append, List.append_nil, if_true, if_false, ite_true, ite_false, Bool.false_eq_true, reduceIte, reduceCtorEq, List.map_cons, List.map_nil, Nat.sub_self, List.replicate_succ, List.replicate_zero, Nat.reduceSub, Nat.reduceAdd, Nat.reduceLT, Nat.reduceLeDiff, Nat.reduceEqDiff, Nat.reduceMul, Nat.reducePow, Int.reduceLT, Int.reduceLE, Int.reduceAdd, Int.reduceMul, Int.reduceSub, Int.reduceNeg, Int.reduceEq, Int.reducePow, Int.reduceMod, Int.reduceDiv, Int.reduceToNat, decide_true, decide_false, and_true, true_and, and_self, Option.some.injEq, addV, iaddV, subV, mulV, fdivV, modV, powV, negV, cmpV, isNonV, notNonV, eqV, neV, eqB, scEq, t1, t2, t3, t4, t5, t6, t7, t8, t9, t10, t11, t12, t13, t14, t15, t16, c1, big]
  have q4 : 0 ≤ m % 4 ∧ m % 4 < 4 := ⟨Int.emod_nonneg _ (by decide), Int.emod_lt_of_pos _ (by decide)⟩
  have q29 : 0 ≤ m / 4 % 29 ∧ m / 4 % 29 < 29 := ⟨Int.emod_nonneg _ (by decide), Int.emod_lt_of_pos _ (by decide)⟩
  obtain ⟨n, hn⟩ : ∃ n : Nat, n = (1 + m % 4).toNat := ⟨_, rfl⟩
  have rep : (List.replicate (1 + m % 4).toNat [rowP t]).flatten = (List.replicate n t).map rowP := by
    rw [← hn, List.map_replicate]
    clear hn
    induction n with
    | zero => rfl
    | succ n ih => rw [List.replicate_succ, List.flatten_cons, ih, List.replicate_succ]; rfl
  have gN : Good pw 30 (List.replicate n t) := fun t' ht' => by rw [(List.mem_replicate.mp ht').2]; exact ⟨tok, td, tP⟩
  have hN : Hold s4 (List.replicate n t) := fun t' ht' => by rw [(List.mem_replicate.mp ht').2]; exact tH t List.mem_cons_self
  have nN : List.replicate n t ≠ [] := by intro q; have := congrArg List.length q; rw [List.length_replicate, List.length_nil] at this; omega
  have lN : (List.replicate n t).length ≤ 1000 := by rw [List.length_replicate]; omega
  obtain ⟨G, r', jn, j2, j3⟩ := F_joined (w := wordS (m / 5)) (ts := List.replicate n t) (r := s4.length + 1) (st := s4 ++ [.lst [rowP t], .lst ((List.replicate n t).map rowP)]) (pw := pw) (by omega) getS nN lN hN.app gN.pl
  have oN := of_good (w := wordS (m / 5)) (r := r') gN nN lN
  obtain ⟨e', st', h1, h2⟩ := forL_inv (gd := []) (g := nameG 6) (b := b_law_k02_s2) (xs := intL 0 1 (m / 4 % 29).toNat)
    (fun i e s => ∃ (u : Rw) (k : Option PV), e = [some (.frz (ns.map PV.int)), some (.int m), some (.ref 0), some (.ref r0), some (rowP u), none, k] ∧ u.1.ok = true ∧ u.1.depth ≤ 31 + i ∧ ofP pw u.1 ∧ Hold s [u])
    (e := [some (.frz (ns.map PV.int)), some (.int m), some (.ref 0), some (.ref r0), some (rowP (.of (wordS (m / 5)) (fsts (List.replicate n t)), r')), none, none]) (st := s4 ++ [.lst [rowP t], .lst ((List.replicate n t).map rowP)] ++ G)
    ⟨_, none, rfl, oN.1, oN.2.1, oN.2.2, j3⟩
    (fun i v e s hx hP => by
      obtain ⟨u, k, rfl, u1, u2, u3, u4⟩ := hP
      refine ⟨gd_nil _, _, rfl, ?_⟩
      have hi : i < (m / 4 % 29).toNat := by
        have := (List.getElem?_eq_some_iff.mp hx).1
        simpa [intL] using this
      have hv : v = .int (0 + (i : Nat) * 1) := by
        unfold intL at hx
        rw [List.getElem?_map, List.getElem?_range hi] at hx
        simpa using hx.symm
      subst hv
      have lk' := lk (j := 0 + (i : Int) * 1 + 6) (by omega) (by omega)
      have dv : 0 ≤ m / (0 + (i : Int) * 1 + 6) := Int.ediv_nonneg qm.1 (by omega)
      have g1 : Good pw (31 + i) [u] := good_one ⟨u1, u2, u3⟩
      obtain ⟨G', r'', jn', j2', j3'⟩ := F_joined (w := wordS (m / (0 + (i : Int) * 1 + 6))) (ts := [u]) (r := s.length) (st := s ++ [.lst [rowP u]]) (pw := pw) (by omega) getS0 (by simp) (by simp) u4.app g1.pl
      have og := of_good (w := wordS (m / (0 + (i : Int) * 1 + 6))) (as := [u]) (r := r'') g1 (by simp) (by simp)
      refine ⟨[some (.frz (ns.map PV.int)), some (.int m), some (.ref 0), some (.ref r0), some (rowP (.of (wordS (m / (0 + (i : Int) * 1 + 6))) (fsts [u]), r'')), none, some (.int (0 + (i : Nat) * 1))], s ++ [.lst [rowP u]] ++ G', ?_, _, _, rfl, og.1, by have := og.2.1; omega, og.2.2, j3'⟩
      simp only [b_law_k02_s2, seqS, ifS, setS, augS, dropS, retS, retN, nxS, bkS, ctS, asgS, subS, R.toS, R.bind, R.of, opF, unF, varF, cstF, chF, isB, asB, andT, orT, notT, andF, orF, notF, ifF, nilA, consA, tupF, lstF, cbF, callF, bmF', truT, truV, nameG, nilG, consG, tupG, List.set_cons_zero, List.set_cons_succ, List.getElem?_cons_zero, List.getElem?_cons_succ, Option.bind_some, Option.bind_none, Option.map_some, Option.map_none, List.length_cons, List.length_nil, List.cons_append, List.nil_append, List.append_nil, if_true, if_false, ite_true, ite_false, Bool.false_eq_true, reduceIte, reduceCtorEq, List.map_cons, List.map_nil, Nat.sub_self, List.replicate_succ, List.replicate_zero, Nat.reduceSub, Nat.reduceAdd, Nat.reduceLT, Nat.reduceLeDiff, Nat.reduceEqDiff, Nat.reduceMul, Nat.reducePow, Int.reduceLT, Int.reduceLE, Int.reduceAdd, Int.reduceMul, Int.reduceSub, Int.reduceNeg, Int.reduceEq, Int.reducePow, Int.reduceMod, Int.reduceDiv, Int.reduceToNat, decide_true, decide_false, and_true, true_and, and_self, Option.some.injEq, addV, iaddV, subV, mulV, fdivV, modV, powV, negV, cmpV, isNonV, notNonV, sizeLine_eq, lk', hw _ _ dv, jn']) (fun e s hP => gd_nil _)
  obtain ⟨u, k, rfl, u1, u2, u3, u4⟩ := h2
  have hu : u.1.depth ≤ 64 := by
    simp only [intL, List.length_map, List.length_range] at u2
    omega
  refine ex_nx (e1 := [some (.frz (ns.map PV.int)), some (.int m), some (.ref 0), some (.ref r0), some (rowP u), none, k]) (s1 := st') ?_ (fin u k st' hu u3 u4)
  have z5 : 0 ≤ m / 5 := by omega
  have r4 : 0 ≤ 1 + m % 4 ∧ 1 + m % 4 ≤ 1000 := by omega
  have r29 : -(2 ^ 62) ≤ m / 4 % 29 ∧ m / 4 % 29 < 2 ^ 62 := by omega
  rw [appS] at jn h1
  simp only [seqS, ifS, setS, augS, dropS, retS, retN, nxS, bkS, ctS, asgS, subS, R.toS, R.bind, R.of, opF, unF, varF, cstF, chF, isB, asB, andT, orT, notT, andF, orF, notF, ifF, nilA, consA, tupF, lstF, cbF, callF, bmF', truT, truV, nameG, nilG, consG, tupG, List.set_cons_zero, List.set_cons_succ, List.getElem?_cons_zero, List.getElem?_cons_succ, Option.bind_some, Option.bind_none, Option.map_some, Option.map_none, List.length_cons, List.length_nil, List.cons_append, List.nil_append, List.append_nil, if_true, if_false, ite_true, ite_false, Bool.false_eq_true, reduceIte, reduceCtorEq, List.map_cons, List.map_nil, Nat.sub_self, List.replicate_succ, List.replicate_zero, Nat.reduceSub, Nat.reduceAdd, Nat.reduceLT, Nat.reduceLeDiff, Nat.reduceEqDiff, Nat.reduceMul, Nat.reducePow, Int.reduceLT, Int.reduceLE, Int.reduceAdd, Int.reduceMul, Int.reduceSub, Int.reduceNeg, Int.reduceEq, Int.reducePow, Int.reduceMod, Int.reduceDiv, Int.reduceToNat, decide_true, decide_false, and_true, true_and, and_self, Option.some.injEq, addV, iaddV, subV, mulV, fdivV, modV, powV, negV, cmpV, isNonV, notNonV, eqV, neV, eqB, scEq, t1, t2, t3, t4, t5, t6, t7, t8, t9, t10, t11, t12, t13, t14, t15, t16, idxV, at0, at1, at2, at3, at4, at5, seqAt, lstAt, lenV, isiV, typV, kb1, kb2, kb3, kb4, kb5, kb6, kb7, kb8, kb9, kb10, kb11, sizeLine_eq, c1, c4, c5, big, hw _ _ z5, getS0, r4, rep, appS, lenS, jn, forS, rng1I, h1, and_true, Nat.reduceLeDiff, Int.reducePow, Int.reduceNeg] at r29 jn h1 ⊢
  simp only [r29, and_self, if_true, jn, h1]
end Pk02
theorem main_k02 : ∀ ns : List Int, ns.length ≤ 63 → ∃ st, F_law_k02 [.frz (ns.map PV.int)] [] = .ok (.bl true) st := Pk02.law_ok
end
end FL
end
open PySem PySem.W PyProof.Rows
set_option maxRecDepth 100000 in
set_option maxHeartbeats 0 in
theorem PySem.Challenge.cw_samewise_k02_holes_in_order_holds : PySem.Challenge.rw_samewise_k02_holes_in_order.Holds := by
  w_on; o_law; k_head; (case hw => w_witness2)
  k_fill
  refine L2.walk_of (l := PySem.Challenge.rw_samewise_k02_holes_in_order) (n := 63) (k := 65) (x := "_law_script") (CX := fun w => L2.CX PySem.Challenge.rw_samewise_k02_holes_in_order.prog w) (sp := fun w => FL.spTop _) rfl (by decide) rfl ⟨rfl, by decide, by decide⟩ (fun w h Y => PySem.W.kIn_of Y) ?F (fun _ _ a ns hl hO hS => ⟨a, ns, rfl, hl, hO, hS, fun _ => rfl⟩) (fun w H s e s' h => FL.top_cx _ w H s e s' h)
  case F =>
    intro w mg fa h KX G hmg
    refine' FL.Wk02.all_mk FL.main_k02 KX G hmg ?a0 ?l0 ?c0 ?k0 ?a1 ?l1 ?c1 ?k1 ?a2 ?l2 ?c2 ?k2 ?a3 ?l3 ?c3 ?k3 ?a4 ?l4 ?c4 ?k4 ?a5 ?l5 ?c5 ?k5 ?a6 ?l6 ?c6 ?k6 ?a7 ?l7 ?c7 ?k7 ?a8 ?l8 ?c8 ?k8 ?a9 ?l9 ?c9 ?k9 ?a10 ?l10 ?c10 ?k10 ?z_len ?z_max ?z_tuple ?z_range ?z_enumerate ?z_min ?z_isinstance ?z_str ?z_list
    (case a0 => k_is); (case l0 => k_is); (case c0 => k_is); (case k0 => k_is); (case a1 => k_is); (case l1 => k_is); (case c1 => k_is); (case k1 => k_is)
    (case a2 => k_is); (case l2 => k_is); (case c2 => k_is); (case k2 => k_is); (case a3 => k_is); (case l3 => k_is); (case c3 => k_is); (case k3 => k_is)
    (case a4 => k_is); (case l4 => k_is); (case c4 => k_is); (case k4 => k_is); (case a5 => k_is); (case l5 => k_is); (case c5 => k_is); (case k5 => k_is)
    (case a6 => k_is); (case l6 => k_is); (case c6 => k_is); (case k6 => k_is); (case a7 => k_is); (case l7 => k_is); (case c7 => k_is); (case k7 => k_is)
    (case a8 => k_is); (case l8 => k_is); (case c8 => k_is); (case k8 => k_is); (case a9 => k_is); (case l9 => k_is); (case c9 => k_is); (case k9 => k_is)
    (case a10 => k_is); (case l10 => k_is); (case c10 => k_is); (case k10 => k_is); (case z_len => k_is); (case z_max => k_is); (case z_tuple => k_is); (case z_range => k_is)
    (case z_enumerate => k_is); (case z_min => k_is); (case z_isinstance => k_is); (case z_str => k_is); (case z_list => k_is)
