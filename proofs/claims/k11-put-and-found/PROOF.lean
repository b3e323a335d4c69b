import PyProof.Rows.All
import Wide.All
import OpenK.AllK
import Wide.FinOn
import HandS.ForMost
import HandS.ForExc
import HandS.CallSlots
import HandS.Wide
import HandS.WideBits
import HandS.TupAny
import HandS.Deep
import HandS.IsInst
import HandS.StrMore
import HandS.Zip
import HandS.Rev
import HandS.RevTup
import HandS.More
import HandS.SetFor
import HandS.SortInts
import HandS.Conv
import HandS.EndBits
import HandS.Defaults
import PySem.Challenge.RW_samewise_k11_put_and_found
set_option Elab.async false
section
set_option linter.all false
set_option maxRecDepth 100000
namespace FL
open PySem PySem.Spec PyProof.Rows L2

/-! ## values, stores -/
inductive PV where
  | non | bl (b : Bool) | int (i : Int) | str (x : Str) | ty (n : String) | cls (n : String)
  | ref (n : Nat) | tup (xs : List PV) | frz (xs : List PV)
structure Ex where
  c : String
  val : Option (Str × PV)
inductive PO where
  | lst (xs : List PV) | dK (kvs : List (Key × PV)) | dN (kvs : List (PV × PV)) | ins (c : String) (fs : List (Str × PV))
abbrev Store := List PO
abbrev Env := List (Option PV)
inductive R (α : Type) where
  | ok (a : α) (st : Store) | er (x : Ex) (st : Store) | no
def R.bind {α β : Type} (r : R α) (g : α → Store → R β) : R β :=
  match r with
  | .ok a s => g a s
  | .er x s => .er x s
  | .no => .no
/-- what a value-level deed gives -/
abbrev O (α : Type) := Option (α × Store)
def R.of {α : Type} : O α → R α
  | some (a, s) => .ok a s
  | none => .no
inductive RS where
  | nx (e : Env) (st : Store) | rt (v : PV) (st : Store) | bk (e : Env) (st : Store) | ct (e : Env) (st : Store) | er (x : Ex) (e : Env) (st : Store) | no
abbrev FE := Env → Store → R PV
abbrev FT := Env → Store → R Bool
abbrev FA := Env → Store → R (List PV)
abbrev FS := Env → Store → RS
abbrev Fn := List PV → Store → R PV

/-! ## the relation -/
def RoL (K : PySem.W.Frag) (H : Hp) (a : Addr) (xs : List V) : Prop :=
  (∃ o, H a = some (.frz o (.lst xs))) ∨
    ∃ (o : Obj) (its : Array Value) (n : Nat), K.lookup a = some o ∧ o.cls = .type "list" ∧ o.dict = none ∧ o.data = .seq its n ∧ its.size ≤ sizeLine ∧ Vals xs its.toList
theorem RoL.sq {K : PySem.W.Frag} {H : Hp} {a : Addr} {xs : List V} (h : RoL K H a xs) : SqL K H a xs := by
  rcases h with ⟨o, h⟩ | h
  · exact .inl (.inr ⟨o, h⟩)
  · exact .inr h

mutual
inductive VR (K : PySem.W.Frag) (ca : String → Addr) (H : Hp) (m : List Addr) : PV → V → Prop
  | non : VR K ca H m .non .non
  | bl (b : Bool) : VR K ca H m (.bl b) (.bl b)
  | int (i : Int) : VR K ca H m (.int i) (.int i)
  | str (x : Str) : VR K ca H m (.str x) (.str x)
  | ty (n : String) : VR K ca H m (.ty n) (.ty n)
  | cls (n : String) : VR K ca H m (.cls n) (.ref (ca n))
  | ref {n : Nat} {a : Addr} (h : m[n]? = some a) : VR K ca H m (.ref n) (.ref a)
  | tup {xs : List PV} {a : Addr} {vs : List V} (h : SqT K H a vs) (r : VRs K ca H m xs vs) : VR K ca H m (.tup xs) (.ref a)
  | frz {xs : List PV} {a : Addr} {vs : List V} (h : RoL K H a vs) (r : VRs K ca H m xs vs) : VR K ca H m (.frz xs) (.ref a)
inductive VRs (K : PySem.W.Frag) (ca : String → Addr) (H : Hp) (m : List Addr) : List PV → List V → Prop
  | nil : VRs K ca H m [] []
  | cons {x : PV} {v : V} {xs : List PV} {vs : List V} (h : VR K ca H m x v) (r : VRs K ca H m xs vs) : VRs K ca H m (x :: xs) (v :: vs)
end
structure Keep (K : PySem.W.Frag) (H H' : Hp) : Prop where
  t : ∀ a xs, SqT K H a xs → SqT K H' a xs
  f : ∀ a xs, RoL K H a xs → RoL K H' a xs
section
variable {K : PySem.W.Frag} {ca : String → Addr} {H H' H'' : Hp} {m m' m'' : List Addr}
theorem Keep.refl : Keep K H H := ⟨fun _ _ h => h, fun _ _ h => h⟩
theorem Keep.trans (a : Keep K H H') (b : Keep K H' H'') : Keep K H H'' := ⟨fun x y h => b.t x y (a.t x y h), fun x y h => b.f x y (a.f x y h)⟩
theorem pre_get {i : Nat} {a : Addr} (p : m <+: m') (h : m[i]? = some a) : m'[i]? = some a := by
  obtain ⟨l, rfl⟩ := p
  have hi : i < m.length := (List.getElem?_eq_some_iff.mp h).1
  rw [List.getElem?_append_left hi]
  exact h
mutual
theorem VR.mono (p : m <+: m') (k : Keep K H H') : ∀ {x : PV} {v : V}, VR K ca H m x v → VR K ca H' m' x v
  | _, _, .non => .non
  | _, _, .bl b => .bl b
  | _, _, .int i => .int i
  | _, _, .str x => .str x
  | _, _, .ty n => .ty n
  | _, _, .cls n => .cls n
  | _, _, .ref h => .ref (pre_get p h)
  | _, _, .tup h r => .tup (k.t _ _ h) (VRs.mono p k r)
  | _, _, .frz h r => .frz (k.f _ _ h) (VRs.mono p k r)
theorem VRs.mono (p : m <+: m') (k : Keep K H H') : ∀ {xs : List PV} {vs : List V}, VRs K ca H m xs vs → VRs K ca H' m' xs vs
  | _, _, .nil => .nil
  | _, _, .cons h r => .cons (VR.mono p k h) (VRs.mono p k r)
end
theorem VRs.length : ∀ {xs : List PV} {vs : List V}, VRs K ca H m xs vs → xs.length = vs.length
  | _, _, .nil => rfl
  | _, _, .cons _ r => by rw [List.length_cons, List.length_cons, VRs.length r]
theorem VRs.get : ∀ {xs : List PV} {vs : List V} {i : Nat} {x : PV}, VRs K ca H m xs vs → xs[i]? = some x → ∃ v, vs[i]? = some v ∧ VR K ca H m x v
  | _, _, _, _, .nil, e => by simp at e
  | _, _, 0, _, .cons h _, e => by simp at e; subst e; exact ⟨_, rfl, h⟩
  | _, _, i + 1, x, .cons _ r, e => by
    obtain ⟨v, h1, h2⟩ := VRs.get (i := i) (x := x) r (by simpa using e)
    exact ⟨v, by simpa using h1, h2⟩
theorem VRs.get' : ∀ {xs : List PV} {vs : List V} {i : Nat} {v : V}, VRs K ca H m xs vs → vs[i]? = some v → ∃ x, xs[i]? = some x ∧ VR K ca H m x v
  | _, _, _, _, .nil, e => by simp at e
  | _, _, 0, _, .cons h _, e => by simp at e; subst e; exact ⟨_, rfl, h⟩
  | _, _, i + 1, v, .cons _ r, e => by
    obtain ⟨x, h1, h2⟩ := VRs.get' (i := i) (v := v) r (by simpa using e)
    exact ⟨x, by simpa using h1, h2⟩
theorem VRs.append : ∀ {xs ys : List PV} {vs ws : List V}, VRs K ca H m xs vs → VRs K ca H m ys ws → VRs K ca H m (xs ++ ys) (vs ++ ws)
  | _, _, _, _, .nil, s => s
  | _, _, _, _, .cons h r, s => .cons h (VRs.append r s)
theorem VRs.take : ∀ {xs : List PV} {vs : List V} (n : Nat), VRs K ca H m xs vs → VRs K ca H m (xs.take n) (vs.take n)
  | _, _, 0, _ => .nil
  | _, _, _ + 1, .nil => .nil
  | _, _, n + 1, .cons h r => .cons h (VRs.take n r)
theorem VRs.drop : ∀ {xs : List PV} {vs : List V} (n : Nat), VRs K ca H m xs vs → VRs K ca H m (xs.drop n) (vs.drop n)
  | _, _, 0, r => r
  | _, _, _ + 1, .nil => .nil
  | _, _, n + 1, .cons _ r => VRs.drop n r
theorem VRs.set {x : PV} {v : V} (h : VR K ca H m x v) : ∀ {xs : List PV} {vs : List V} (i : Nat), VRs K ca H m xs vs → VRs K ca H m (xs.set i x) (vs.set i v)
  | _, _, _, .nil => .nil
  | _, _, 0, .cons _ t => .cons h t
  | _, _, i + 1, .cons q t => .cons q (VRs.set h i t)
theorem VRs.rev {xs : List PV} {vs : List V} (h : VRs K ca H m xs vs) : VRs K ca H m xs.reverse vs.reverse := by
  induction xs generalizing vs with
  | nil => cases h; exact .nil
  | cons x xs ih =>
    cases h with
    | cons h r =>
      rw [List.reverse_cons, List.reverse_cons]
      exact (ih r).append (.cons h .nil)
theorem VRs.ints : ∀ (ns : List Int), VRs K ca H m (ns.map PV.int) (ns.map V.int)
  | [] => .nil
  | n :: r => .cons (.int n) (VRs.ints r)

/-- pairs with one key -/
def KR {κ : Type} (K : PySem.W.Frag) (ca : String → Addr) (H : Hp) (m : List Addr) : List (κ × PV) → List (κ × V) → Prop := Paired fun p q => p.1 = q.1 ∧ VR K ca H m p.2 q.2
theorem KR.mono {κ : Type} (p : m <+: m') (k : Keep K H H') {a : List (κ × PV)} {b : List (κ × V)} (h : KR K ca H m a b) : KR K ca H' m' a b := Paired.mapP h fun _ _ q => ⟨q.1, q.2.mono p k⟩
/-- what stands at a place of the store -/
def OR (K : PySem.W.Frag) (ca : String → Addr) (H : Hp) (m : List Addr) (a : Addr) : PO → Prop
  | .lst xs => ∃ vs, H a = some (.lst vs) ∧ VRs K ca H m xs vs
  | .dK kvs => ∃ ws, H a = some (.dK ws) ∧ KR K ca H m kvs ws
  | .dN _ => False
  | .ins c fs => ∃ dx gs, H a = some (.ins (ca c) dx gs) ∧ KR K ca H m fs gs
structure SR (K : PySem.W.Frag) (ca : String → Addr) (H : Hp) (m : List Addr) (st : Store) : Prop where
  len : m.length = st.length
  nd : m.Nodup
  ob : ∀ (n : Nat) (a : Addr) (o : PO), m[n]? = some a → st[n]? = some o → OR K ca H m a o
def ER (K : PySem.W.Frag) (ca : String → Addr) (H : Hp) (m : List Addr) (e : Env) (σ : L2.St) : Prop :=
  e.length = σ.length ∧ ∀ (i : Nat) v, e[i]? = some (some v) → ∃ w, σ[i]? = some (some w) ∧ VR K ca H m v w
theorem ER.mono {e : Env} {σ : L2.St} (h : ER K ca H m e σ) (p : m <+: m') (k : Keep K H H') : ER K ca H' m' e σ :=
  ⟨h.1, fun i v q => let ⟨w, a, b⟩ := h.2 i v q; ⟨w, a, b.mono p k⟩⟩
theorem OR.some {a : Addr} {o : PO} (h : OR K ca H m a o) : ∃ u, H a = Option.some u ∧ (∀ xs, u ≠ .tup xs) ∧ (∀ o' w, u ≠ .frz o' w) := by
  cases o with
  | lst xs => obtain ⟨vs, e, _⟩ := h; exact ⟨_, e, (fun _ z => nomatch z), (fun _ _ z => nomatch z)⟩
  | dK kvs => obtain ⟨vs, e, _⟩ := h; exact ⟨_, e, (fun _ z => nomatch z), (fun _ _ z => nomatch z)⟩
  | dN kvs => exact h.elim
  | ins c fs => obtain ⟨dx, vs, e, _⟩ := h; exact ⟨_, e, (fun _ z => nomatch z), (fun _ _ z => nomatch z)⟩
/-- what stands stays where its own cell, the tuples and the map stay -/
theorem OR.mono {a : Addr} {o : PO} (h : OR K ca H m a o) (p : m <+: m') (k : Keep K H H') (e : H' a = H a) : OR K ca H' m' a o := by
  cases o with
  | lst xs => obtain ⟨vs, q, r⟩ := h; exact ⟨vs, by rw [e]; exact q, r.mono p k⟩
  | dK kvs => obtain ⟨vs, q, r⟩ := h; exact ⟨vs, by rw [e]; exact q, r.mono p k⟩
  | dN kvs => exact h.elim
  | ins c fs => obtain ⟨dx, vs, q, r⟩ := h; exact ⟨dx, vs, by rw [e]; exact q, r.mono p k⟩
/-- a new object that is no matter to the store -/
theorem Keep.new {p : Addr} {o : HO} (h : H p = none) : Keep K H (upd H p o) where
  t := fun a xs q => by
    rcases q with (q | ⟨ob, q⟩) | q
    · exact .inl (.inl (by rw [upd_ne (ne_of_none q h)]; exact q))
    · exact .inl (.inr ⟨ob, by rw [upd_ne (ne_of_none q h)]; exact q⟩)
    · exact .inr q
  f := fun a xs q => by
    rcases q with ⟨ob, q⟩ | q
    · exact .inl ⟨ob, by rw [upd_ne (ne_of_none q h)]; exact q⟩
    · exact .inr q
/-- an object of the store is changed -/
theorem Keep.upd {p : Addr} {o u : HO} (h : H p = some u) (h1 : ∀ xs, u ≠ .tup xs) (h2 : ∀ o' w, u ≠ .frz o' w) : Keep K H (upd H p o) where
  t := fun a xs q => by
    rcases q with (q | ⟨ob, q⟩) | q
    · exact .inl (.inl (by rw [upd_ne (ne_of q h fun z => h1 _ z.symm)]; exact q))
    · exact .inl (.inr ⟨ob, by rw [upd_ne (ne_of q h fun z => h2 _ _ z.symm)]; exact q⟩)
    · exact .inr q
  f := fun a xs q => by
    rcases q with ⟨ob, q⟩ | q
    · exact .inl ⟨ob, by rw [upd_ne (ne_of q h fun z => h2 _ _ z.symm)]; exact q⟩
    · exact .inr q
section
variable {st : Store}
theorem SR.get (s : SR K ca H m st) {n : Nat} {o : PO} (h : st[n]? = some o) : ∃ a, m[n]? = some a ∧ OR K ca H m a o := by
  have hn : n < m.length := by rw [s.len]; exact (List.getElem?_eq_some_iff.mp h).1
  exact ⟨m[n], List.getElem?_eq_getElem hn, s.ob n _ o (List.getElem?_eq_getElem hn) h⟩
theorem SR.at (s : SR K ca H m st) {n : Nat} {a : Addr} {o : PO} (h : st[n]? = some o) (ha : m[n]? = some a) : OR K ca H m a o := s.ob n a o ha h
theorem SR.ne_new (s : SR K ca H m st) {p : Addr} (h : H p = none) : p ∉ m := fun hm => by
  obtain ⟨i, hi, e⟩ := List.getElem_of_mem hm
  have hi' : i < st.length := by rw [← s.len]; exact hi
  obtain ⟨u, q, _⟩ := (s.ob i _ _ (List.getElem?_eq_getElem hi) (List.getElem?_eq_getElem hi')).some
  rw [e, h] at q
  cases q
/-- a new object that the store does not hold -/
theorem SR.skip (s : SR K ca H m st) {p : Addr} {o : HO} (h : H p = none) : SR K ca (upd H p o) m st :=
  ⟨s.len, s.nd, fun n a ob ha ho => (s.ob n a ob ha ho).mono (List.prefix_refl _) (Keep.new h) (upd_ne fun z => s.ne_new h (z ▸ List.mem_of_getElem? ha))⟩
/-- a new object that the store holds -/
theorem SR.new (s : SR K ca H m st) {p : Addr} {o : HO} {ob : PO} (h : H p = none) (r : OR K ca (L2.upd H p o) (m ++ [p]) p ob) : SR K ca (L2.upd H p o) (m ++ [p]) (st ++ [ob]) := by
  refine ⟨by rw [List.length_append, List.length_append, s.len] <;> rfl, ?_, fun n a u ha hu => ?_⟩
  · rw [List.nodup_append]
    refine ⟨s.nd, List.nodup_cons.mpr ⟨List.not_mem_nil, List.nodup_nil⟩, fun x hx y hy => ?_⟩
    obtain rfl := List.mem_singleton.mp hy
    exact fun z => s.ne_new h (z ▸ hx)
  · by_cases hn : n < m.length
    · rw [List.getElem?_append_left hn] at ha
      rw [List.getElem?_append_left (by rw [← s.len]; exact hn)] at hu
      exact (s.ob n a u ha hu).mono (List.prefix_append _ _) (Keep.new h) (upd_ne fun z => s.ne_new h (z ▸ List.mem_of_getElem? ha))
    · have e : n = m.length := by
        have := (List.getElem?_eq_some_iff.mp ha).1
        rw [List.length_append, List.length_singleton] at this
        omega
      subst e
      rw [List.getElem?_append_right (Nat.le_refl _), Nat.sub_self] at ha
      rw [s.len, List.getElem?_append_right (Nat.le_refl _), Nat.sub_self] at hu
      cases ha
      cases hu
      exact r
/-- an object of the store is changed -/
theorem SR.set (s : SR K ca H m st) {n : Nat} {p : Addr} {o u : HO} {ob : PO} (hp : m[n]? = some p) (hu : H p = some u) (h1 : ∀ xs, u ≠ .tup xs) (h2 : ∀ o' w, u ≠ .frz o' w)
    (r : OR K ca (L2.upd H p o) m p ob) : SR K ca (L2.upd H p o) m (st.set n ob) := by
  refine ⟨by rw [List.length_set, s.len], s.nd, fun k a w ha hw => ?_⟩
  by_cases e : n = k
  · subst e
    rw [hp] at ha
    cases ha
    rw [List.getElem?_set_self (by rw [← s.len]; exact (List.getElem?_eq_some_iff.mp hp).1)] at hw
    cases hw
    exact r
  · rw [List.getElem?_set_ne e] at hw
    refine (s.ob k a w ha hw).mono (List.prefix_refl _) (Keep.upd hu h1 h2) (upd_ne fun z => e ?_)
    subst z
    have i1 := (List.getElem?_eq_some_iff.mp hp)
    have i2 := (List.getElem?_eq_some_iff.mp ha)
    obtain ⟨l1, e1⟩ := i1
    obtain ⟨l2, e2⟩ := i2
    exact (List.getElem_inj s.nd).mp (e1.trans e2.symm)
end
end

/-! ## what is wanted behind -/
section
variable (K : PySem.W.Frag) (ca : String → Addr)
/-- an exception -/
def XR (H : Hp) (m : List Addr) (x : Ex) (d : Option Addr) : Prop :=
  match x.val with
  | none => d = none
  | some (f, v) => ∃ a w, d = some a ∧ H a = some (.xd [(f, w)]) ∧ VR K ca H m v w
abbrev WV := Ex → Hp → List Addr → Store → Prop
def Post {α β : Type} (rel : Hp → List Addr → α → β → Prop) (E : Ex → Option Addr → Hp → Prop) (m : List Addr) (H : Hp) (Q : β → Hp → Prop) (r : R α) : Prop :=
  match r with
  | .ok a st' => ∀ m' b H', m <+: m' → Keep K H H' → SR K ca H' m' st' → rel H' m' a b → Q b H'
  | .er x st' => ∀ m' d H', m <+: m' → Keep K H H' → SR K ca H' m' st' → XR K ca H' m' x d → E x d H'
  | .no => False
def Post0 {α β : Type} (rel : Hp → List Addr → α → β → Prop) (m : List Addr) (H : Hp) (Q : β → Hp → Prop) (r : O α) : Prop :=
  match r with
  | some (a, st') => ∀ m' b H', m <+: m' → Keep K H H' → SR K ca H' m' st' → rel H' m' a b → Q b H'
  | none => False
def PostS (E : Ex → Option Addr → L2.St → Hp → Prop) (m : List Addr) (H : Hp) (D : Ends) (r : RS) : Prop :=
  match r with
  | .nx e st' => ∀ m' σ' H', m <+: m' → Keep K H H' → SR K ca H' m' st' → ER K ca H' m' e σ' → D.nx σ' H'
  | .rt v st' => ∀ m' w H', m <+: m' → Keep K H H' → SR K ca H' m' st' → VR K ca H' m' v w → D.rt w H'
  | .bk e st' => ∀ m' σ' H', m <+: m' → Keep K H H' → SR K ca H' m' st' → ER K ca H' m' e σ' → D.bk σ' H'
  | .ct e st' => ∀ m' σ' H', m <+: m' → Keep K H H' → SR K ca H' m' st' → ER K ca H' m' e σ' → D.ct σ' H'
  | .er x e st' => ∀ m' d σ' H', m <+: m' → Keep K H H' → SR K ca H' m' st' → ER K ca H' m' e σ' → XR K ca H' m' x d → E x d σ' H'
  | .no => False
end
section
variable {K : PySem.W.Frag} {ca : String → Addr} {m m' : List Addr} {H H' : Hp}
theorem Post.mono {α β : Type} {rel : Hp → List Addr → α → β → Prop} {E : Ex → Option Addr → Hp → Prop} {Q : β → Hp → Prop} {r : R α} (h : Post K ca rel E m H Q r) (p : m <+: m') (k : Keep K H H') : Post K ca rel E m' H' Q r := by
  cases r with
  | ok a st => exact fun m2 b H2 p2 k2 => h m2 b H2 (p.trans p2) (k.trans k2)
  | er x st => exact fun m2 b H2 p2 k2 => h m2 b H2 (p.trans p2) (k.trans k2)
  | no => exact h
theorem Post0.mono {α β : Type} {rel : Hp → List Addr → α → β → Prop} {Q : β → Hp → Prop} {r : O α} (h : Post0 K ca rel m H Q r) (p : m <+: m') (k : Keep K H H') : Post0 K ca rel m' H' Q r := by
  cases r with
  | some a => exact fun m2 b H2 p2 k2 => h m2 b H2 (p.trans p2) (k.trans k2)
  | none => exact h
theorem PostS.mono {E : Ex → Option Addr → L2.St → Hp → Prop} {D : Ends} {r : RS} (h : PostS K ca E m H D r) (p : m <+: m') (k : Keep K H H') : PostS K ca E m' H' D r := by
  cases r with
  | nx e st => exact fun m2 b H2 p2 k2 => h m2 b H2 (p.trans p2) (k.trans k2)
  | rt v st => exact fun m2 b H2 p2 k2 => h m2 b H2 (p.trans p2) (k.trans k2)
  | bk e st => exact fun m2 b H2 p2 k2 => h m2 b H2 (p.trans p2) (k.trans k2)
  | ct e st => exact fun m2 b H2 p2 k2 => h m2 b H2 (p.trans p2) (k.trans k2)
  | er x e st => exact fun m2 d b H2 p2 k2 => h m2 d b H2 (p.trans p2) (k.trans k2)
  | no => exact h
theorem Post.of {α β : Type} {rel : Hp → List Addr → α → β → Prop} {E : Ex → Option Addr → Hp → Prop} {Q : β → Hp → Prop} {r : O α} (h : Post K ca rel E m H Q (R.of r)) : Post0 K ca rel m H Q r := by
  cases r with
  | some a => exact h
  | none => exact h
end

/-! ## judgements -/
section
variable (X : Cx) (W : WX) (ca : String → Addr)
/-- the wish of an exception at the slots σ -/
abbrev EW (σ : L2.St) : Ex → Option Addr → Hp → Prop := fun x d H => W (.ref (ca x.c)) d σ H
abbrev EWs : Ex → Option Addr → L2.St → Hp → Prop := fun x d σ H => W (.ref (ca x.c)) d σ H
abbrev rB : Hp → List Addr → Bool → Bool → Prop := fun _ _ a b => a = b
structure JE (e : Expr) (f : FE) : Prop where
  ex : ∃ t, PE X e t ∧ ∀ σ H m env st Q, SR X.K ca H m st → ER X.K ca H m env σ → Post X.K ca (VR X.K ca) (EW W ca σ) m H Q (f env st) → t σ H Q
structure JT (e : Expr) (f : FT) : Prop where
  ex : ∃ t, PT X e t ∧ ∀ σ H m env st Q, SR X.K ca H m st → ER X.K ca H m env σ → Post X.K ca rB (EW W ca σ) m H Q (f env st) → t σ H Q
/-- and, or, whatever the whole is -/
structure JW (e : Expr) (f : FT) : Prop where
  ex : ∃ t, PW X e t ∧ ∀ σ H m env st Q, SR X.K ca H m st → ER X.K ca H m env σ → Post X.K ca rB (EW W ca σ) m H Q (f env st) → t σ H Q
structure JA (es : List Expr) (f : FA) : Prop where
  ex : ∃ t, PA X es t ∧ ∀ σ H m env st Q, SR X.K ca H m st → ER X.K ca H m env σ → Post X.K ca (VRs X.K ca) (EW W ca σ) m H Q (f env st) → t σ H Q
structure JS (s : Stmt) (f : FS) : Prop where
  ex : ∃ t, PS X s t ∧ ∀ σ H m env st D, SR X.K ca H m st → ER X.K ca H m env σ → PostS X.K ca (EWs W ca) m H D (f env st) → t D σ H
structure JSs (s : List Stmt) (f : FS) : Prop where
  ex : ∃ t, PSs X s t ∧ ∀ σ H m env st D, SR X.K ca H m st → ER X.K ca H m env σ → PostS X.K ca (EWs W ca) m H D (f env st) → t D σ H
/-- a target -/
abbrev FG := PV → Env → Option Env
structure JG (tg : Expr) (g : FG) : Prop where
  ex : ∃ t, PG X tg t ∧ ∀ σ H m env v w env' Q, ER X.K ca H m env σ → VR X.K ca H m v w → g v env = some env' → (∀ σ', ER X.K ca H m env' σ' → Q σ' H) → t w σ H Q
structure JGs (tgs : List Expr) (g : List PV → Env → Option Env) : Prop where
  ex : ∃ t, PGs X tgs t ∧ ∀ σ H m env v w env' Q, ER X.K ca H m env σ → VRs X.K ca H m v w → g v env = some env' → (∀ σ', ER X.K ca H m env' σ' → Q σ' H) → t w σ H Q
end
end FL
end
section
set_option linter.all false
set_option maxRecDepth 100000
namespace FL
open PySem PySem.Spec PyProof.Rows L2
noncomputable section

/-! ## rules of the nodes -/
section
variable {K : PySem.W.Frag} {ca : String → Addr} {m m' : List Addr} {H H' : Hp}
theorem Post.bind {α β α' β' : Type} {rel : Hp → List Addr → α → β → Prop} {rel2 : Hp → List Addr → α' → β' → Prop} {E : Ex → Option Addr → Hp → Prop} {Q1 : β → Hp → Prop} {Q2 : β' → Hp → Prop} {r : R α} {g : α → Store → R α'}
    (h : Post K ca rel2 E m H Q2 (r.bind g))
    (f : ∀ a st1 m1 b H1, m <+: m1 → Keep K H H1 → SR K ca H1 m1 st1 → rel H1 m1 a b → Post K ca rel2 E m1 H1 Q2 (g a st1) → Q1 b H1) : Post K ca rel E m H Q1 r := by
  cases r with
  | ok a st => exact fun m1 b H1 p k s q => f a st m1 b H1 p k s q (Post.mono h p k)
  | er x st => exact h
  | no => exact h
/-- a result at hand -/
theorem Post.ok {α β : Type} {rel : Hp → List Addr → α → β → Prop} {E : Ex → Option Addr → Hp → Prop} {Q : β → Hp → Prop} {a : α} {st : Store} {b : β} (h : Post K ca rel E m H Q (.ok a st)) (s : SR K ca H m st) (r : rel H m a b) : Q b H :=
  h m b H (List.prefix_refl _) Keep.refl s r
end

def varF (i : Nat) : FE := fun e st => match e[i]? with
  | some (some v) => .ok v st
  | _ => .no
def cstF (v : PV) : FE := fun _ st => .ok v st
def opF (g : PV → PV → Store → O PV) (fa fb : FE) : FE := fun e st => (fa e st).bind fun x s1 => (fb e s1).bind fun y s2 => R.of (g x y s2)
def unF (g : PV → Store → O PV) (fa : FE) : FE := fun e st => (fa e st).bind fun x s1 => R.of (g x s1)
def asB (v : PV) (st : Store) : R Bool := match v with
  | .bl b => .ok b st
  | _ => .no
def chF (g g' : PV → PV → Store → O PV) (fa fb fc : FE) : FE := fun e st => (fa e st).bind fun x s1 => (fb e s1).bind fun y s2 => (R.of (g x y s2)).bind fun z s3 => (asB z s3).bind fun k s4 =>
  if k = true then (fc e s4).bind fun u s5 => R.of (g' y u s5) else .ok (.bl false) s4
def isB (fa : FE) : FT := fun e st => (fa e st).bind asB
def andT (f g : FT) : FT := fun e st => (f e st).bind fun k s1 => if k = true then g e s1 else .ok false s1
def orT (f g : FT) : FT := fun e st => (f e st).bind fun k s1 => if k = true then .ok true s1 else g e s1
def notT (f : FT) : FT := fun e st => (f e st).bind fun k s1 => .ok (!k) s1
def andF (f g : FE) : FE := fun e st => ((f e st).bind asB).bind fun k s1 => if k = true then g e s1 else .ok (.bl false) s1
def orF (f g : FE) : FE := fun e st => ((f e st).bind asB).bind fun k s1 => if k = true then .ok (.bl true) s1 else g e s1
def notF (f : FE) : FE := fun e st => ((f e st).bind asB).bind fun k s1 => .ok (.bl (!k)) s1
def ifF (c : FT) (f g : FE) : FE := fun e st => (c e st).bind fun k s1 => if k = true then f e s1 else g e s1
def nilA : FA := fun _ st => .ok [] st
def consA (f : FE) (g : FA) : FA := fun e st => (f e st).bind fun x s1 => (g e s1).bind fun xs s2 => .ok (x :: xs) s2
def tupF (f : FA) : FE := fun e st => (f e st).bind fun xs s1 => if xs.length ≤ sizeLine then .ok (.tup xs) s1 else .no
def lstF (f : FA) : FE := fun e st => (f e st).bind fun xs s1 => if xs.length ≤ sizeLine then .ok (.ref s1.length) (s1 ++ [.lst xs]) else .no
def cbF (g : List PV → Store → O PV) (f : FA) : FE := fun e st => (f e st).bind fun xs s1 => R.of (g xs s1)
/-- a call of a def; ds: the defaults that fill up -/
def callF (n : Nat) (F : Fn) (ds : List PV) (f : FA) : FE := fun e st => (f e st).bind fun xs s1 => if (xs ++ ds).length = n then F (xs ++ ds) s1 else .no
/-- a method of a built-in type -/
def bmF (g : PV → List PV → Store → O PV) (fo : FE) (f : FA) : FE := fun e st => (fo e st).bind fun o s1 => (f e s1).bind fun xs s2 => R.of (g o xs s2)
def truV (v : PV) (st : Store) : R Bool := match v with
  | .non => .ok false st
  | .bl b => .ok b st
  | .int i => .ok (i != 0) st
  | .str x => if x.length ≤ sizeLine then .ok (x.length != 0) st else .no
  | .tup xs => .ok (!xs.isEmpty) st
  | .frz xs => .ok (!xs.isEmpty) st
  | .ref n => match st[n]? with
    | some (.lst xs) => .ok (!xs.isEmpty) st
    | some (.dK kvs) => .ok (!kvs.isEmpty) st
    | _ => .no
  | _ => .no
def truT (fa : FE) : FT := fun e st => (fa e st).bind truV

section
variable {X : Cx} {W : WX} {ca : String → Addr}
/-! ### value-level deeds -/
def OpF (X : Cx) (ca : String → Addr) (f : Value → Value → Sem Value) (g : PV → PV → Store → O PV) : Prop :=
  ∃ r, OpR X f r ∧ ∀ H m st x y x' y' Q, SR X.K ca H m st → VR X.K ca H m x x' → VR X.K ca H m y y' → Post0 X.K ca (VR X.K ca) m H Q (g x y st) → r x' y' H Q
def UnF (X : Cx) (ca : String → Addr) (f : Value → Sem Value) (g : PV → Store → O PV) : Prop :=
  ∃ r, UnR X f r ∧ ∀ H m st x x' Q, SR X.K ca H m st → VR X.K ca H m x x' → Post0 X.K ca (VR X.K ca) m H Q (g x st) → r x' H Q
def IxF (X : Cx) (ca : String → Addr) (g : PV → PV → Store → O PV) : Prop :=
  ∃ r, IxR X r ∧ ∀ H m st x y x' y' Q, SR X.K ca H m st → VR X.K ca H m x x' → VR X.K ca H m y y' → Post0 X.K ca (VR X.K ca) m H Q (g x y st) → r x' y' H Q
def CbF (X : Cx) (ca : String → Addr) (f : Value) (g : List PV → Store → O PV) : Prop :=
  ∃ r, CallR X f r ∧ ∀ H m st xs vs Q, SR X.K ca H m st → VRs X.K ca H m xs vs → Post0 X.K ca (VR X.K ca) m H Q (g xs st) → r vs H Q
/-- T: the type of the receiver -/
def BmF (X : Cx) (ca : String → Addr) (T : String) (id : String) (g : PV → List PV → Store → O PV) : Prop :=
  ∃ r, MtR X id r ∧ ∀ H m st o o' xs vs Q, SR X.K ca H m st → VR X.K ca H m o o' → VRs X.K ca H m xs vs → Post0 X.K ca (VR X.K ca) m H Q (g o xs st) → r o' vs H Q

/-! ### names, constants -/
theorem je_v (i : Nat) {x : Str} {pos : Pos} (hN : X.N[i]? = some x := by rfl) (hv : Vis X.env.scope x := by first | exact Or.inl rfl | exact Or.inr (Or.inl rfl) | exact Or.inr (Or.inr rfl))
    (hd : (x == ("__debug__" : Str)) = false := by decide) (hcd : (x == ("__classdict__" : Str)) = false := by decide) : JE X W ca (.Name x pos) (varF i) := by
  refine ⟨_, pe_var hN hv hd hcd, fun σ H m env st Q s e h => ?_⟩
  unfold varF at h
  split at h
  · rename_i v hv
    obtain ⟨w, h1, h2⟩ := e.2 i v hv
    exact ⟨w, h1, h.ok s h2⟩
  · exact h.elim
theorem je_int {i j pos} : JE X W ca (.Constant (.int i) j pos) (cstF (.int i)) := ⟨_, pe_int, fun σ H m env st Q s e h => h.ok s (.int i)⟩
theorem je_bl {b j pos} : JE X W ca (.Constant (.bool b) j pos) (cstF (.bl b)) := ⟨_, pe_bl, fun σ H m env st Q s e h => h.ok s (.bl b)⟩
theorem je_non {j pos} : JE X W ca (.Constant .none j pos) (cstF .non) := ⟨_, pe_non, fun σ H m env st Q s e h => h.ok s .non⟩
theorem je_str {x j pos} : JE X W ca (.Constant (.str x) j pos) (cstF (.str x)) := ⟨_, pe_str, fun σ H m env st Q s e h => h.ok s (.str x)⟩
/-- a constant of the module -/
theorem je_glob {x : Str} {v : PV} {u : Value} {w : V} {pos : Pos} (hg : Gl X x) (hm : X.mg x = some u) (r : RelV w u) (hr : ∀ H m, VR X.K ca H m v w) (hd : (x == ("__debug__" : Str)) = false := by decide) : JE X W ca (.Name x pos) (cstF v) :=
  ⟨_, pe_glob hg hm r hd, fun σ H m env st Q s e h => h.ok s (hr H m)⟩
/-- a built-in type as a value -/
theorem je_ty {x : Str} {n : String} {pos : Pos} (hg : Gl X x) (hm : X.mg x = none) (hv : bootBuiltins x = some (.type n)) (hn : x ≠ "__name__" := by decide) (hd : (x == ("__debug__" : Str)) = false := by decide) : JE X W ca (.Name x pos) (cstF (.ty n)) :=
  ⟨_, pe_bltn (v := .ty n) hg hm hv rfl hn hd, fun σ H m env st Q s e h => h.ok s (.ty n)⟩

/-! ### operators -/
theorem je_op {op : Operator} {a b : Expr} {pos : Pos} {fa fb : FE} {g : PV → PV → Store → O PV} (ho : OpF X ca (binaryOp op) g) (ha : JE X W ca a fa) (hb : JE X W ca b fb) : JE X W ca (.BinOp a op b pos) (opF g fa fb) := by
  obtain ⟨ta, pa, ra⟩ := ha.ex
  obtain ⟨tb, pb, rb⟩ := hb.ex
  obtain ⟨r, po, ro⟩ := ho
  refine ⟨_, pe_op po pa pb, fun σ H m env st Q s e h => ?_⟩
  refine ra σ H m env st _ s e (Post.bind h fun x st1 m1 x' H1 p1 k1 s1 r1 h1 => ?_)
  refine rb σ H1 m1 env st1 _ s1 (e.mono p1 k1) (Post.bind h1 fun y st2 m2 y' H2 p2 k2 s2 r2 h2 => ?_)
  exact ro H2 m2 st2 x y x' y' Q s2 (r1.mono p2 k2) r2 h2.of
theorem je_un {op : UnaryOp} {a : Expr} {pos : Pos} {fa : FE} {g : PV → Store → O PV} (ho : UnF X ca (unaryOp op) g) (ha : JE X W ca a fa) : JE X W ca (.UnaryOp op a pos) (unF g fa) := by
  obtain ⟨ta, pa, ra⟩ := ha.ex
  obtain ⟨r, po, ro⟩ := ho
  refine ⟨_, pe_un po pa, fun σ H m env st Q s e h => ?_⟩
  refine ra σ H m env st _ s e (Post.bind h fun x st1 m1 x' H1 p1 k1 s1 r1 h1 => ?_)
  exact ro H1 m1 st1 x x' Q s1 r1 h1.of
theorem je_cmp {op : CmpOp} {a b : Expr} {pos : Pos} {fa fb : FE} {g : PV → PV → Store → O PV} (ho : OpF X ca (compareOp op) g) (ha : JE X W ca a fa) (hb : JE X W ca b fb) (hm : behindInMarks op b = false) : JE X W ca (.Compare a [op] [b] pos) (opF g fa fb) := by
  obtain ⟨ta, pa, ra⟩ := ha.ex
  obtain ⟨tb, pb, rb⟩ := hb.ex
  obtain ⟨r, po, ro⟩ := ho
  refine ⟨_, pe_cmpR po pa pb hm, fun σ H m env st Q s e h => ?_⟩
  refine ra σ H m env st _ s e (Post.bind h fun x st1 m1 x' H1 p1 k1 s1 r1 h1 => ?_)
  refine rb σ H1 m1 env st1 _ s1 (e.mono p1 k1) (Post.bind h1 fun y st2 m2 y' H2 p2 k2 s2 r2 h2 => ?_)
  exact ro H2 m2 st2 x y x' y' Q s2 (r1.mono p2 k2) r2 h2.of
theorem asB_post {m : List Addr} {H : Hp} {E : Ex → Option Addr → Hp → Prop} {Q : Bool → Hp → Prop} {x : PV} {x' : V} {st : Store} (h : Post X.K ca rB E m H Q (asB x st)) (s : SR X.K ca H m st) (r : VR X.K ca H m x x') : ∃ k, x' = .bl k ∧ Q k H := by
  cases r with
  | bl b => exact ⟨b, rfl, h.ok s rfl⟩
  | _ => exact h.elim
theorem jt_cmp {op : CmpOp} {a b : Expr} {pos : Pos} {fa fb : FE} {g : PV → PV → Store → O PV} (ho : OpF X ca (compareOp op) g) (ha : JE X W ca a fa) (hb : JE X W ca b fb) (hm : behindInMarks op b = false) : JT X W ca (.Compare a [op] [b] pos) (isB (opF g fa fb)) := by
  obtain ⟨ta, pa, ra⟩ := ha.ex
  obtain ⟨tb, pb, rb⟩ := hb.ex
  obtain ⟨r, po, ro⟩ := ho
  refine ⟨_, pt_cmpR po pa pb hm, fun σ H m env st Q s e h => ?_⟩
  unfold isB opF at h
  have h' : Post X.K ca rB (EW W ca σ) m H Q ((fa env st).bind fun x s1 => (fb env s1).bind fun y s2 => (R.of (g x y s2)).bind asB) := by
    cases q : fa env st with
    | ok x s1 =>
      rw [q] at h
      simp only [R.bind] at h ⊢
      cases q2 : fb env s1 <;> rw [q2] at h <;> exact h
    | er x s1 => rw [q] at h; exact h
    | no => rw [q] at h; exact h
  refine ra σ H m env st _ s e (Post.bind h' fun x st1 m1 x' H1 p1 k1 s1 r1 h1 => ?_)
  refine rb σ H1 m1 env st1 _ s1 (e.mono p1 k1) (Post.bind h1 fun y st2 m2 y' H2 p2 k2 s2 r2 h2 => ?_)
  refine ro H2 m2 st2 x y x' y' _ s2 (r1.mono p2 k2) r2 (Post.of (Post.bind h2 fun z st3 m3 z' H3 p3 k3 s3 r3 h3 => ?_))
  exact asB_post h3 s3 r3
theorem je_ch {op op' : CmpOp} {a b c : Expr} {pos : Pos} {fa fb fc : FE} {g g' : PV → PV → Store → O PV} (ho : OpF X ca (compareOp op) g) (ho' : OpF X ca (compareOp op') g') (ha : JE X W ca a fa) (hb : JE X W ca b fb) (hc : JE X W ca c fc)
    (hm : lastMarks [op, op'] [b, c] = false := by with_unfolding_all rfl) : JE X W ca (.Compare a [op, op'] [b, c] pos) (chF g g' fa fb fc) := by
  obtain ⟨ta, pa, ra⟩ := ha.ex
  obtain ⟨tb, pb, rb⟩ := hb.ex
  obtain ⟨tc, pc, rc⟩ := hc.ex
  obtain ⟨r, po, ro⟩ := ho
  obtain ⟨r', po', ro'⟩ := ho'
  refine ⟨_, pe_chain po po' pa pb pc hm, fun σ H m env st Q s e h => ?_⟩
  refine ra σ H m env st _ s e (Post.bind h fun x st1 m1 x' H1 p1 k1 s1 r1 h1 => ?_)
  refine rb σ H1 m1 env st1 _ s1 (e.mono p1 k1) (Post.bind h1 fun y st2 m2 y' H2 p2 k2 s2 r2 h2 => ?_)
  refine ro H2 m2 st2 x y x' y' _ s2 (r1.mono p2 k2) r2 (Post.of (Post.bind h2 fun z st3 m3 z' H3 p3 k3 s3 r3 h3 => ?_))
  have h4 := Post.bind (rel := rB) (Q1 := fun k H4 => H4 = H3 → if k = true then tc σ H4 (fun u H5 => r' y' u H5 Q) else Q (.bl false) H4) h3 fun k st4 m4 k' H4 p4 k4 s4 r4 h4 e4 => by
    subst e4
    have rk : k = k' := r4
    subst rk
    cases k with
    | true =>
      rw [if_pos rfl] at h4 ⊢
      refine rc σ H4 m4 env st4 _ s4 (e.mono (((p1.trans p2).trans p3).trans p4) (((k1.trans k2).trans k3).trans k4)) (Post.bind h4 fun u st5 m5 u' H5 p5 k5 s5 r5 h5 => ?_)
      exact ro' H5 m5 st5 y u y' u' Q s5 (r2.mono ((p3.trans p4).trans p5) ((k3.trans k4).trans k5)) r5 h5.of
    | false =>
      rw [if_neg Bool.false_ne_true] at h4 ⊢
      exact h4.ok s4 (.bl false)
  obtain ⟨k, ek, q⟩ := asB_post h4 s3 r3
  subst ek
  exact ⟨k, rfl, q rfl⟩
theorem jt_val {e : Expr} {f : FE} (h : JE X W ca e f) (he : ∀ whole, isTrue e X.env whole = (do let v ← whole; standAt e.pos; holding [v] (truthy v)) := by intro _; rfl) : JT X W ca e (isB f) := by
  obtain ⟨t, p, r⟩ := h.ex
  refine ⟨_, pt_val p he, fun σ H m env st Q s e h => ?_⟩
  exact r σ H m env st _ s e (Post.bind h fun z st3 m3 z' H3 p3 k3 s3 r3 h3 => asB_post h3 s3 r3)
theorem truV_post {m : List Addr} {H : Hp} {E : Ex → Option Addr → Hp → Prop} {Q : Bool → Hp → Prop} {x : PV} {x' : V} {st : Store} (h : Post X.K ca rB E m H Q (truV x st)) (s : SR X.K ca H m st) (r : VR X.K ca H m x x') : ∃ k, TruV X.K x' H k ∧ Q k H := by
  have ie : ∀ {xs : List PV} {vs : List V}, VRs X.K ca H m xs vs → (!xs.isEmpty) = (!vs.isEmpty) := fun q => by cases q <;> rfl
  cases r with
  | non => exact ⟨false, rfl, h.ok s rfl⟩
  | bl b => exact ⟨b, rfl, h.ok s rfl⟩
  | int i => exact ⟨_, rfl, h.ok s rfl⟩
  | str x =>
    simp only [truV] at h
    split at h
    · rename_i hl
      exact ⟨_, ⟨hl, rfl⟩, h.ok s (by show (x.length != 0) = (((x.length : Nat) : Int) != 0); cases x.length with | zero => rfl | succ n => rw [show (n + 1 != 0) = true by simp]; symm; simp; omega)⟩
    · exact h.elim
  | tup hs rs => exact ⟨_, .inr (.inl ⟨_, hs, rfl⟩), h.ok s (ie rs)⟩
  | frz hs rs => exact ⟨_, .inl ⟨_, hs.sq, rfl⟩, h.ok s (ie rs)⟩
  | ref hn =>
    simp only [truV] at h
    split at h
    · rename_i xs hx
      obtain ⟨vs, e1, rs⟩ := s.at hx hn
      exact ⟨_, .inl ⟨_, SqL.of e1, rfl⟩, h.ok s (ie rs)⟩
    · rename_i kvs hx
      obtain ⟨vs, e1, rs⟩ := s.at hx hn
      refine ⟨_, .inr (.inr ⟨_, e1, rfl⟩), h.ok s ?_⟩
      show (!kvs.isEmpty) = (!vs.isEmpty)
      cases rs <;> rfl
    · exact h.elim
  | _ => exact h.elim
theorem jt_tru {e : Expr} {f : FE} (h : JE X W ca e f) (he : ∀ whole, isTrue e X.env whole = (do let v ← whole; standAt e.pos; holding [v] (truthy v)) := by intro _; rfl) : JT X W ca e (truT f) := by
  obtain ⟨t, p, r⟩ := h.ex
  refine ⟨_, pt_truth p he, fun σ H m env st Q s e h => ?_⟩
  exact r σ H m env st _ s e (Post.bind h fun z st3 m3 z' H3 p3 k3 s3 r3 h3 => truV_post h3 s3 r3)
theorem JW.jt {e : Expr} {f : FT} (h : JW X W ca e f) : JT X W ca e f := by
  obtain ⟨t, p, r⟩ := h.ex
  exact ⟨t, p.pt, r⟩
theorem jw_and1 {a : Expr} {pos : Pos} {f : FT} (ha : JT X W ca a f) : JW X W ca (.BoolOp .And [a] pos) f := by
  obtain ⟨t, p, r⟩ := ha.ex
  exact ⟨_, pw_and1 p, r⟩
theorem jw_or1 {a : Expr} {pos : Pos} {f : FT} (ha : JT X W ca a f) : JW X W ca (.BoolOp .Or [a] pos) f := by
  obtain ⟨t, p, r⟩ := ha.ex
  exact ⟨_, pw_or1 p, r⟩
theorem jw_and {a b : Expr} {rest : List Expr} {pos : Pos} {f g : FT} (ha : JT X W ca a f) (hb : JW X W ca (.BoolOp .And (b :: rest) pos) g) : JW X W ca (.BoolOp .And (a :: b :: rest) pos) (andT f g) := by
  obtain ⟨t, p, r⟩ := ha.ex
  obtain ⟨u, q, z⟩ := hb.ex
  refine ⟨_, pw_and p q, fun σ H m env st Q s e h => ?_⟩
  refine r σ H m env st _ s e (Post.bind h fun k st1 m1 k' H1 p1 k1 s1 r1 h1 => ?_)
  have rk : k = k' := r1
  subst rk
  cases k with
  | true => exact z σ H1 m1 env st1 Q s1 (e.mono p1 k1) h1
  | false => exact h1.ok s1 rfl
theorem jw_or {a b : Expr} {rest : List Expr} {pos : Pos} {f g : FT} (ha : JT X W ca a f) (hb : JW X W ca (.BoolOp .Or (b :: rest) pos) g) : JW X W ca (.BoolOp .Or (a :: b :: rest) pos) (orT f g) := by
  obtain ⟨t, p, r⟩ := ha.ex
  obtain ⟨u, q, z⟩ := hb.ex
  refine ⟨_, pw_or p q, fun σ H m env st Q s e h => ?_⟩
  refine r σ H m env st _ s e (Post.bind h fun k st1 m1 k' H1 p1 k1 s1 r1 h1 => ?_)
  have rk : k = k' := r1
  subst rk
  cases k with
  | true => exact h1.ok s1 rfl
  | false => exact z σ H1 m1 env st1 Q s1 (e.mono p1 k1) h1
theorem jt_not {a : Expr} {pos : Pos} {f : FT} (ha : JT X W ca a f) : JT X W ca (.UnaryOp .Not a pos) (notT f) := by
  obtain ⟨t, p, r⟩ := ha.ex
  refine ⟨_, pt_not p, fun σ H m env st Q s e h => ?_⟩
  refine r σ H m env st _ s e (Post.bind h fun k st1 m1 k' H1 p1 k1 s1 r1 h1 => ?_)
  have rk : k = k' := r1
  subst rk
  exact h1.ok s1 rfl
theorem je_one {op} {a : Expr} {pos : Pos} {f : FE} (ha : JE X W ca a f) : JE X W ca (.BoolOp op [a] pos) f := by
  obtain ⟨t, p, r⟩ := ha.ex
  exact ⟨_, pe_one p, r⟩
theorem je_and {a b : Expr} {rest : List Expr} {pos : Pos} {f g : FE} (ha : JE X W ca a f) (hb : JE X W ca (.BoolOp .And (b :: rest) pos) g) : JE X W ca (.BoolOp .And (a :: b :: rest) pos) (andF f g) := by
  obtain ⟨t, p, r⟩ := ha.ex
  obtain ⟨u, q, z⟩ := hb.ex
  refine ⟨_, pe_and p q, fun σ H m env st Q s e h => ?_⟩
  have h' : Post X.K ca (VR X.K ca) (EW W ca σ) m H Q ((f env st).bind fun x s1 => (asB x s1).bind fun k s1 => if k = true then g env s1 else .ok (.bl false) s1) := by
    unfold andF at h
    cases q : f env st <;> rw [q] at h <;> exact h
  refine r σ H m env st _ s e (Post.bind h' fun x st1 m1 x' H1 p1 k1 s1 r1 h1 => ?_)
  cases r1 with
  | bl k =>
    refine ⟨k, rfl, ?_⟩
    cases k with
    | true => exact z σ H1 m1 env st1 Q s1 (e.mono p1 k1) h1
    | false => exact h1.ok s1 (.bl false)
  | _ => exact h1.elim
theorem je_or {a b : Expr} {rest : List Expr} {pos : Pos} {f g : FE} (ha : JE X W ca a f) (hb : JE X W ca (.BoolOp .Or (b :: rest) pos) g) : JE X W ca (.BoolOp .Or (a :: b :: rest) pos) (orF f g) := by
  obtain ⟨t, p, r⟩ := ha.ex
  obtain ⟨u, q, z⟩ := hb.ex
  refine ⟨_, pe_or p q, fun σ H m env st Q s e h => ?_⟩
  have h' : Post X.K ca (VR X.K ca) (EW W ca σ) m H Q ((f env st).bind fun x s1 => (asB x s1).bind fun k s1 => if k = true then .ok (.bl true) s1 else g env s1) := by
    unfold orF at h
    cases q : f env st <;> rw [q] at h <;> exact h
  refine r σ H m env st _ s e (Post.bind h' fun x st1 m1 x' H1 p1 k1 s1 r1 h1 => ?_)
  cases r1 with
  | bl k =>
    refine ⟨k, rfl, ?_⟩
    cases k with
    | true => exact h1.ok s1 (.bl true)
    | false => exact z σ H1 m1 env st1 Q s1 (e.mono p1 k1) h1
  | _ => exact h1.elim
theorem je_not {a : Expr} {pos : Pos} {f : FE} (ha : JE X W ca a f) : JE X W ca (.UnaryOp .Not a pos) (notF f) := by
  obtain ⟨t, p, r⟩ := ha.ex
  refine ⟨_, pe_not p, fun σ H m env st Q s e h => ?_⟩
  have h' : Post X.K ca (VR X.K ca) (EW W ca σ) m H Q ((f env st).bind fun x s1 => (asB x s1).bind fun k s1 => .ok (.bl (!k)) s1) := by
    unfold notF at h
    cases q : f env st <;> rw [q] at h <;> exact h
  refine r σ H m env st _ s e (Post.bind h' fun x st1 m1 x' H1 p1 k1 s1 r1 h1 => ?_)
  cases r1 with
  | bl k => exact ⟨k, rfl, h1.ok s1 (.bl _)⟩
  | _ => exact h1.elim
theorem je_if {c a b : Expr} {pos : Pos} {fc : FT} {f g : FE} (hc : JT X W ca c fc) (ha : JE X W ca a f) (hb : JE X W ca b g) : JE X W ca (.IfExp c a b pos) (ifF fc f g) := by
  obtain ⟨tc, pc, rc⟩ := hc.ex
  obtain ⟨t, p, r⟩ := ha.ex
  obtain ⟨u, q, z⟩ := hb.ex
  refine ⟨_, pe_ifExp pc p q, fun σ H m env st Q s e h => ?_⟩
  refine rc σ H m env st _ s e (Post.bind h fun k st1 m1 k' H1 p1 k1 s1 r1 h1 => ?_)
  have rk : k = k' := r1
  subst rk
  cases k with
  | true => exact r σ H1 m1 env st1 Q s1 (e.mono p1 k1) h1
  | false => exact z σ H1 m1 env st1 Q s1 (e.mono p1 k1) h1

/-! ### argument lists, displays -/
theorem ja_nil : JA X W ca [] nilA := ⟨_, pa_nil, fun σ H m env st Q s e h => h.ok s .nil⟩
theorem ja_cons {e : Expr} {es : List Expr} {f : FE} {g : FA} (ha : JE X W ca e f) (hr : JA X W ca es g) (hs : starEach (e :: es) X.env = (false, eval e X.env) :: starEach es X.env := by rfl) : JA X W ca (e :: es) (consA f g) := by
  obtain ⟨t, p, r⟩ := ha.ex
  obtain ⟨u, q, z⟩ := hr.ex
  refine ⟨_, pa_cons p q hs, fun σ H m env st Q s e h => ?_⟩
  refine r σ H m env st _ s e (Post.bind h fun x st1 m1 x' H1 p1 k1 s1 r1 h1 => ?_)
  refine z σ H1 m1 env st1 _ s1 (e.mono p1 k1) (Post.bind h1 fun y st2 m2 y' H2 p2 k2 s2 r2 h2 => ?_)
  exact h2.ok s2 (.cons (r1.mono p2 k2) r2)
theorem upd_t {K : PySem.W.Frag} {ca : String → Addr} {H : Hp} {m : List Addr} {st : Store} {p : Addr} {xs : List PV} {vs : List V} (s : SR K ca H m st) (hp : H p = none) (r : VRs K ca H m xs vs) :
    Keep K H (upd H p (.tup vs)) ∧ SR K ca (upd H p (.tup vs)) m st ∧ VR K ca (upd H p (.tup vs)) m (.tup xs) (.ref p) :=
  ⟨Keep.new hp, s.skip hp, .tup (SqT.of upd_same) (r.mono (List.prefix_refl _) (Keep.new hp))⟩
theorem upd_l {K : PySem.W.Frag} {ca : String → Addr} {H : Hp} {m : List Addr} {st : Store} {p : Addr} {xs : List PV} {vs : List V} (s : SR K ca H m st) (hp : H p = none) (r : VRs K ca H m xs vs) :
    m <+: m ++ [p] ∧ Keep K H (upd H p (.lst vs)) ∧ SR K ca (upd H p (.lst vs)) (m ++ [p]) (st ++ [.lst xs]) ∧ VR K ca (upd H p (.lst vs)) (m ++ [p]) (.ref st.length) (.ref p) :=
  ⟨List.prefix_append _ _, Keep.new hp, s.new hp ⟨vs, upd_same, r.mono (List.prefix_append _ _) (Keep.new hp)⟩, .ref (by rw [← s.len, List.getElem?_append_right (Nat.le_refl _), Nat.sub_self]; rfl)⟩
theorem je_tup {es : List Expr} {x1} {pos : Pos} {f : FA} (h : JA X W ca es f) : JE X W ca (.Tuple es x1 pos) (tupF f) := by
  obtain ⟨t, p, r⟩ := h.ex
  refine ⟨_, pe_tup p, fun σ H m env st Q s e h => ?_⟩
  refine r σ H m env st _ s e (Post.bind h fun x st1 m1 x' H1 p1 k1 s1 r1 h1 => ?_)
  split at h1
  · rename_i hz
    refine ⟨by rw [← r1.length]; exact hz, fun q hq => ?_⟩
    obtain ⟨a, b, c⟩ := upd_t s1 hq r1
    exact h1 m1 _ _ (List.prefix_refl _) a b c
  · exact h1.elim
theorem je_lst {es : List Expr} {pos : Pos} {f : FA} (h : JA X W ca es f) : JE X W ca (.List es pos) (lstF f) := by
  obtain ⟨t, p, r⟩ := h.ex
  refine ⟨_, pe_lst p, fun σ H m env st Q s e h => ?_⟩
  refine r σ H m env st _ s e (Post.bind h fun x st1 m1 x' H1 p1 k1 s1 r1 h1 => ?_)
  split at h1
  · rename_i hz
    refine ⟨by rw [← r1.length]; exact hz, fun q hq => ?_⟩
    obtain ⟨a, b, c, d⟩ := upd_l s1 hq r1
    exact h1 _ _ _ a b c d
  · exact h1.elim

/-! ### calls -/
/-- a def's promise, from what it does on values -/
def spF (K : PySem.W.Frag) (ca : String → Addr) (n : Nat) (F : Fn) : Sp := fun vs H Q E => ∃ m st xs, SR K ca H m st ∧ VRs K ca H m xs vs ∧ xs.length = n ∧ Post K ca (VR K ca) (fun x d H' => E (.ref (ca x.c)) d H') m H Q (F xs st)
/-- a def that can be called: level, parameters, the defaults that fill up -/
structure Cal (P : Program) (w : World) (K : PySem.W.Frag) (mg : Str → Option Value) (base : Heap) (ca : String → Addr) (k : Nat) (f : Addr) (fd : FuncData) (ps : List Str) (F : Fn) : Prop where
  ok : FnOk P w K mg base (L2.CX P w) k f fd ps (spF K ca ps.length F)
  kp : PySem.W.keepIn K (.ref f) = true
/-- the defaults that fill up -/
structure Bnd (K : PySem.W.Frag) (ca : String → Addr) (fd : FuncData) (ps : List Str) (ds : List PV) : Prop where
  ex : ∃ (us : List Value) (vs : List V), Binds K fd ps us ∧ Vals vs us ∧ ∀ H m, VRs K ca H m ds vs
theorem Bnd.nil {K : PySem.W.Frag} {fd : FuncData} {ps : List Str} (b : Binds K fd ps []) : Bnd K ca fd ps [] := ⟨[], [], b, .nil, fun _ _ => .nil⟩
theorem je_call {k n : Nat} {f : Addr} {fd : FuncData} {ps : List Str} {F : Fn} {ds : List PV} {x : Str} {p pos : Pos} {e : Expr} {es : List Expr} {fa : FA} (tk : Takes X W) (C : Cal X.prog X.w X.K X.mg X.base ca k f fd ps F) (b : Bnd X.K ca fd ps ds) (hr : Room k X.A) (hm : X.mg x = some (.ref f))
    (ha : JA X W ca (e :: es) fa) (hn : ps.length = n := by rfl) (hg : Gl X x := by rfl) (hdb : (x == ("__debug__" : Str)) = false := by decide) (he : starEach (e :: es) X.env = (false, eval e X.env) :: starEach es X.env := by rfl) (hpl : (backTo pos (starEach es X.env)).any (·.1) = false := by rfl) :
    JE X W ca (.Call (.Name x p) (e :: es) [] pos) (callF n F ds fa) := by
  subst hn
  obtain ⟨t, pa, r⟩ := ha.ex
  obtain ⟨us, vs, hb, hd, rd⟩ := b.ex
  refine ⟨_, pe_callSD (E := WE W) C.ok hr hg hm C.kp hb hd (passAt tk) pa hdb he hpl, fun σ H m env st Q s e h => ?_⟩
  refine r σ H m env st _ s e (Post.bind h fun x st1 m1 x' H1 p1 k1 s1 r1 h1 => ?_)
  split at h1
  · rename_i hl
    exact ⟨m1, st1, _, s1, r1.append (rd H1 m1), hl, h1⟩
  · exact h1.elim
theorem je_callB {id : String} {g : List PV → Store → O PV} {x : Str} {p pos : Pos} {e : Expr} {es : List Expr} {fa : FA} (hc : CbF X ca (.builtin id) g) (hm : X.mg x = none) (hv : bootBuiltins x = some (.builtin id)) (ha : JA X W ca (e :: es) fa) (hg : Gl X x := by rfl) (hn : x ≠ "__name__" := by decide) (hdb : (x == ("__debug__" : Str)) = false := by decide)
    (he : starEach (e :: es) X.env = (false, eval e X.env) :: starEach es X.env := by rfl) (hpl : (backTo pos (starEach es X.env)).any (·.1) = false := by rfl) : JE X W ca (.Call (.Name x p) (e :: es) [] pos) (cbF g fa) := by
  obtain ⟨t, pa, r⟩ := ha.ex
  obtain ⟨rr, pc, rc⟩ := hc
  refine ⟨_, pe_callB pc hg hm hv pa hn hdb he hpl, fun σ H m env st Q s e h => ?_⟩
  refine r σ H m env st _ s e (Post.bind h fun x st1 m1 x' H1 p1 k1 s1 r1 h1 => ?_)
  exact rc H1 m1 st1 x x' Q s1 r1 h1.of
theorem je_callTy {T : String} {g : List PV → Store → O PV} {x : Str} {p pos : Pos} {e : Expr} {es : List Expr} {fa : FA} (hc : CbF X ca (.type T) g) (hm : X.mg x = none) (hv : bootBuiltins x = some (.type T)) (ha : JA X W ca (e :: es) fa) (hg : Gl X x := by rfl) (hn : x ≠ "__name__" := by decide) (hdb : (x == ("__debug__" : Str)) = false := by decide)
    (he : starEach (e :: es) X.env = (false, eval e X.env) :: starEach es X.env := by rfl) (hpl : (backTo pos (starEach es X.env)).any (·.1) = false := by rfl) : JE X W ca (.Call (.Name x p) (e :: es) [] pos) (cbF g fa) := by
  obtain ⟨t, pa, r⟩ := ha.ex
  obtain ⟨rr, pc, rc⟩ := hc
  refine ⟨_, pe_callTy pc hg hm hv pa hn hdb he hpl, fun σ H m env st Q s e h => ?_⟩
  refine r σ H m env st _ s e (Post.bind h fun x st1 m1 x' H1 p1 k1 s1 r1 h1 => ?_)
  exact rc H1 m1 st1 x x' Q s1 r1 h1.of
/-! ### subscripts -/
theorem je_ix {g : PV → PV → Store → O PV} {a b : Expr} {pos : Pos} {fa fb : FE} (hi : IxF X ca g) (ha : JE X W ca a fa) (hb : JE X W ca b fb) (hs : PlainIx b := by exact fun _ _ => rfl) : JE X W ca (.Subscript a b pos) (opF g fa fb) := by
  obtain ⟨ta, pa, ra⟩ := ha.ex
  obtain ⟨tb, pb, rb⟩ := hb.ex
  obtain ⟨r, po, ro⟩ := hi
  refine ⟨_, pe_ix po pa pb hs, fun σ H m env st Q s e h => ?_⟩
  refine ra σ H m env st _ s e (Post.bind h fun x st1 m1 x' H1 p1 k1 s1 r1 h1 => ?_)
  refine rb σ H1 m1 env st1 _ s1 (e.mono p1 k1) (Post.bind h1 fun y st2 m2 y' H2 p2 k2 s2 r2 h2 => ?_)
  exact ro H2 m2 st2 x y x' y' Q s2 (r1.mono p2 k2) r2 h2.of
end
end
end FL
end
section
set_option linter.all false
set_option maxRecDepth 100000
namespace FL
open PySem PySem.Spec PyProof.Rows L2
noncomputable section

/-! ## statements -/
def R.toS {α : Type} (r : R α) (e : Env) (g : α → Store → RS) : RS :=
  match r with
  | .ok a s => g a s
  | .er x s => .er x e s
  | .no => .no
def nxS : FS := fun e st => .nx e st
def bkS : FS := fun e st => .bk e st
def ctS : FS := fun e st => .ct e st
def seqS (f g : FS) : FS := fun e st => match f e st with
  | .nx e1 s1 => g e1 s1
  | r => r
def ifS (c : FT) (f g : FS) : FS := fun e st => (c e st).toS e fun k s1 => if k = true then f e s1 else g e s1
def dropS (f : FE) : FS := fun e st => (f e st).toS e fun _ s1 => .nx e s1
def retS (f : FE) : FS := fun e st => (f e st).toS e fun v s1 => .rt v s1
def retN : FS := fun _ st => .rt .non st
def setS (i : Nat) (f : FE) : FS := fun e st => (f e st).toS e fun v s1 => .nx (e.set i (some v)) s1
def augS (i : Nat) (g : PV → PV → Store → O PV) (f : FE) : FS := fun e st => match e[i]? with
  | some (some x) => (f e st).toS e fun y s1 => (R.of (g x y s1)).toS e fun z s2 => .nx (e.set i (some z)) s2
  | _ => .no
def nameG (i : Nat) : FG := fun v e => some (e.set i (some v))
def nilG : List PV → Env → Option Env := fun vs e => match vs with
  | [] => some e
  | _ => none
def consG (g : FG) (h : List PV → Env → Option Env) : List PV → Env → Option Env := fun vs e => match vs with
  | v :: r => (g v e).bind fun e1 => h r e1
  | [] => none
def tupG (n : Nat) (h : List PV → Env → Option Env) : FG := fun v e => match v with
  | .tup xs => if xs.length = n then h xs e else none
  | _ => none
def asgS (g : FG) (f : FE) : FS := fun e st => (f e st).toS e fun v s1 => match g v e with
  | some e1 => .nx e1 s1
  | none => .no
/-- o[i] = v: the value first -/
def subS (g : PV → PV → PV → Store → Option Store) (fv fo fi : FE) : FS := fun e st => (fv e st).toS e fun v s1 => (fo e s1).toS e fun o s2 => (fi e s2).toS e fun i s3 => match g o i v s3 with
  | some s4 => .nx e s4
  | none => .no

section
variable {K : PySem.W.Frag} {ca : String → Addr} {m m' : List Addr} {H H' : Hp}
theorem Post.toS {α β : Type} {rel : Hp → List Addr → α → β → Prop} {E : Ex → Option Addr → L2.St → Hp → Prop} {Q1 : β → Hp → Prop} {D : Ends} {r : R α} {env : Env} {σ : L2.St} {g : α → Store → RS}
    (h : PostS K ca E m H D (r.toS env g)) (e : ER K ca H m env σ)
    (f : ∀ a st1 m1 b H1, m <+: m1 → Keep K H H1 → SR K ca H1 m1 st1 → rel H1 m1 a b → PostS K ca E m1 H1 D (g a st1) → Q1 b H1) : Post K ca rel (fun x d H => E x d σ H) m H Q1 r := by
  cases r with
  | ok a st => exact fun m1 b H1 p k s q => f a st m1 b H1 p k s q (PostS.mono h p k)
  | er x st => exact fun m1 d H1 p k s q => h m1 d σ H1 p k s (e.mono p k) q
  | no => exact h
theorem PostS.nx {E : Ex → Option Addr → L2.St → Hp → Prop} {D : Ends} {env : Env} {σ : L2.St} {st : Store} (h : PostS K ca E m H D (.nx env st)) (s : SR K ca H m st) (e : ER K ca H m env σ) : D.nx σ H :=
  h m σ H (List.prefix_refl _) Keep.refl s e
theorem ER.set {env : Env} {σ : L2.St} {v : PV} {w : V} (e : ER K ca H m env σ) (r : VR K ca H m v w) (i : Nat) : ER K ca H m (env.set i (some v)) (σ.set i (some w)) := by
  refine ⟨by rw [List.length_set, List.length_set, e.1], fun j u q => ?_⟩
  by_cases hj : i = j
  · subst hj
    have hi : i < env.length := by
      have := (List.getElem?_eq_some_iff.mp q).1
      rwa [List.length_set] at this
    rw [List.getElem?_set_self hi] at q
    cases q
    exact ⟨w, by rw [List.getElem?_set_self (by rw [← e.1]; exact hi)], r⟩
  · rw [List.getElem?_set_ne hj] at q ⊢
    exact e.2 j u q
end

section
variable {X : Cx} {W : WX} {ca : String → Addr} {pos : Pos}
theorem jss_nil : JSs X W ca [] nxS := ⟨_, pss_nil, fun σ H m env st D s e h => h.nx s e⟩
theorem jss_cons {s : Stmt} {rest : List Stmt} {f g : FS} (h1 : JS X W ca s f) (h2 : JSs X W ca rest g) : JSs X W ca (s :: rest) (seqS f g) := by
  obtain ⟨t, p, r⟩ := h1.ex
  obtain ⟨u, q, z⟩ := h2.ex
  refine ⟨_, pss_cons p q, fun σ H m env st D s e h => ?_⟩
  refine r σ H m env st _ s e ?_
  unfold seqS at h
  cases c : f env st with
  | nx e1 s1 =>
    rw [c] at h
    exact fun m1 σ1 H1 p1 k1 s2 e2 => z σ1 H1 m1 e1 s1 D s2 e2 (PostS.mono h p1 k1)
  | rt v s1 => rw [c] at h; exact h
  | bk e1 s1 => rw [c] at h; exact h
  | ct e1 s1 => rw [c] at h; exact h
  | er x e1 s1 => rw [c] at h; exact h
  | no => rw [c] at h; exact h
theorem jss_one {s : Stmt} {f : FS} (h1 : JS X W ca s f) : JSs X W ca [s] f := by
  obtain ⟨t, p, r⟩ := h1.ex
  exact ⟨_, pss_one p, r⟩
theorem js_pass : JS X W ca (.Pass pos) nxS := ⟨_, ps_pass, fun σ H m env st D s e h => h.nx s e⟩
theorem js_break : JS X W ca (.Break pos) bkS := ⟨_, ps_break, fun σ H m env st D s e h => h m σ H (List.prefix_refl _) Keep.refl s e⟩
theorem js_continue : JS X W ca (.Continue pos) ctS := ⟨_, ps_continue, fun σ H m env st D s e h => h m σ H (List.prefix_refl _) Keep.refl s e⟩
theorem js_doc {x j pos pos'} : JS X W ca (.Expr (.Constant (.str x) j pos) pos') nxS := ⟨_, ps_doc, fun σ H m env st D s e h => h.nx s e⟩
theorem js_expr {e : Expr} {f : FE} (he : JE X W ca e f) (hs : swapsWith e none pos.line X.env = pure false := by rfl) : JS X W ca (.Expr e pos) (dropS f) := by
  obtain ⟨t, p, r⟩ := he.ex
  refine ⟨_, ps_expr p hs, fun σ H m env st D s e h => ?_⟩
  exact r σ H m env st _ s e (Post.toS h e fun v st1 m1 w H1 p1 k1 s1 r1 h1 => h1.nx s1 (e.mono p1 k1))
theorem js_ret {e : Expr} {f : FE} (he : JE X W ca e f) : JS X W ca (.Return (some e) pos) (retS f) := by
  obtain ⟨t, p, r⟩ := he.ex
  refine ⟨_, ps_ret p, fun σ H m env st D s e h => ?_⟩
  exact r σ H m env st _ s e (Post.toS h e fun v st1 m1 w H1 p1 k1 s1 r1 h1 => h1 m1 w H1 (List.prefix_refl _) Keep.refl s1 r1)
theorem js_retN : JS X W ca (.Return none pos) retN := ⟨_, ps_retN, fun σ H m env st D s e h => h m .non H (List.prefix_refl _) Keep.refl s .non⟩
theorem js_if {c : Expr} {a b : List Stmt} {fc : FT} {f g : FS} (hc : JT X W ca c fc) (ha : JSs X W ca a f) (hb : JSs X W ca b g) : JS X W ca (.If c a b pos) (ifS fc f g) := by
  obtain ⟨tc, pc, rc⟩ := hc.ex
  obtain ⟨t, p, r⟩ := ha.ex
  obtain ⟨u, q, z⟩ := hb.ex
  refine ⟨_, ps_if pc p q, fun σ H m env st D s e h => ?_⟩
  refine rc σ H m env st _ s e (Post.toS h e fun k st1 m1 k' H1 p1 k1 s1 r1 h1 => ?_)
  have rk : k = k' := r1
  subst rk
  cases k with
  | true => exact r σ H1 m1 env st1 D s1 (e.mono p1 k1) h1
  | false => exact z σ H1 m1 env st1 D s1 (e.mono p1 k1) h1
theorem js_set {i : Nat} {x : Str} {e : Expr} {f : FE} {pos' : Pos} (hN : X.N.Nodup) (he : JE X W ca e f) (hi : X.N[i]? = some x := by rfl) (hx : Loc X.env.scope x := by first | exact Or.inl rfl | exact Or.inr rfl) (hs : swapsWith e (some (.Name x pos')) pos.line X.env = pure false := by rfl) (hf : X.fn x = true ∨ X.env.scope.names.lookup x = some .local := by first | exact .inl rfl | exact .inr rfl | assumption) :
    JS X W ca (.Assign [.Name x pos'] e pos) (setS i f) := by
  obtain ⟨t, p, r⟩ := he.ex
  refine ⟨_, ps_set hN hi hx p hs hf, fun σ H m env st D s e h => ?_⟩
  refine r σ H m env st _ s e (Post.toS h e fun v st1 m1 w H1 p1 k1 s1 r1 h1 => ?_)
  exact h1.nx s1 ((e.mono p1 k1).set r1 i)
theorem js_aug {i : Nat} {x : Str} {e : Expr} {f : FE} {op : Operator} {g : PV → PV → Store → O PV} {pos' : Pos} (hN : X.N.Nodup) (ho : OpF X ca (inplaceOp op) g) (he : JE X W ca e f) (hi : X.N[i]? = some x := by rfl) (hx : Loc X.env.scope x := by first | exact Or.inl rfl | exact Or.inr rfl) (hf : X.fn x = true ∨ X.env.scope.names.lookup x = some .local := by first | exact .inl rfl | exact .inr rfl | assumption) :
    JS X W ca (.AugAssign (.Name x pos') op e pos) (augS i g f) := by
  obtain ⟨t, p, r⟩ := he.ex
  obtain ⟨rr, po, ro⟩ := ho
  refine ⟨_, ps_aug (ti := rr) hN hi hx p (fun pins s σ H x y v u Q I rx ry q => po pins s σ H x y v u Q I rx ry q) hf, fun σ H m env st D s e h => ?_⟩
  unfold augS at h
  split at h
  · rename_i x hx
    obtain ⟨w, h1, h2⟩ := e.2 i x hx
    refine ⟨w, h1, ?_⟩
    refine r σ H m env st _ s e (Post.toS h e fun y st1 m1 y' H1 p1 k1 s1 r1 h3 => ?_)
    refine ro H1 m1 st1 x y w y' _ s1 (h2.mono p1 k1) r1 (Post.of (Post.toS h3 (e.mono p1 k1) fun z st2 m2 z' H2 p2 k2 s2 r2 h4 => ?_))
    exact h4.nx s2 ((e.mono (p1.trans p2) (k1.trans k2)).set r2 i)
  · exact h.elim

/-! ### targets -/
/-- sl: the slots that are written -/
structure JG' (X : Cx) (ca : String → Addr) (tg : Expr) (sl : List Nat) (g : FG) : Prop where
  ex : ∃ t, PG X tg t ∧ ∀ σ H m env v w env' Q, ER X.K ca H m env σ → VR X.K ca H m v w → g v env = some env' → (∀ σ', ER X.K ca H m env' σ' → (σ'.length = σ.length ∧ ∀ j, j ∉ sl → σ'[j]? = σ[j]?) → Q σ' H) → t w σ H Q
structure JGs' (X : Cx) (ca : String → Addr) (tgs : List Expr) (sl : List Nat) (g : List PV → Env → Option Env) : Prop where
  ex : ∃ t, PGs X tgs t ∧ ∀ σ H m env v w env' Q, ER X.K ca H m env σ → VRs X.K ca H m v w → g v env = some env' → (∀ σ', ER X.K ca H m env' σ' → (σ'.length = σ.length ∧ ∀ j, j ∉ sl → σ'[j]? = σ[j]?) → Q σ' H) → t w σ H Q
theorem jg_name {i : Nat} {x : Str} (hN : X.N.Nodup) (hi : X.N[i]? = some x := by rfl) (hx : Loc X.env.scope x := by first | exact Or.inl rfl | exact Or.inr rfl) (hf : X.fn x = true ∨ X.env.scope.names.lookup x = some .local := by first | exact .inl rfl | exact .inr rfl | assumption) :
    JG' X ca (.Name x pos) [i] (nameG i) :=
  ⟨_, pg_name hN hi hx hf, fun σ H m env v w env' Q e r hg q => by
    cases hg
    refine q _ (e.set r i) ⟨List.length_set, fun j hj => ?_⟩
    rw [List.getElem?_set_ne (fun z => hj (List.mem_singleton.mpr z.symm))]⟩
theorem jgs_nil : JGs' X ca [] [] nilG := ⟨_, pgs_nil, fun σ H m env v w env' Q e r hg q => by
  cases r with
  | nil => cases hg; exact ⟨rfl, q _ e ⟨rfl, fun _ _ => rfl⟩⟩
  | cons a b => cases hg⟩
theorem jgs_cons {e : Expr} {es : List Expr} {sl sl2 : List Nat} {g : FG} {h : List PV → Env → Option Env} (h1 : JG' X ca e sl g) (h2 : JGs' X ca es sl2 h)
    (hs : (assignEach (e :: es) X.env).map (·.2) = assign e X.env :: (assignEach es X.env).map (·.2) := by rfl) : JGs' X ca (e :: es) (sl ++ sl2) (consG g h) := by
  obtain ⟨t, p, r⟩ := h1.ex
  obtain ⟨u, q, z⟩ := h2.ex
  refine ⟨_, pgs_cons p q hs, fun σ H m env v w env' Q e rv hg k => ?_⟩
  cases rv with
  | nil => cases hg
  | cons ra rb =>
    rename_i x v xs vs
    unfold consG at hg
    simp only at hg
    cases c : g x env with
    | none => rw [c] at hg; cases hg
    | some e1 =>
      rw [c] at hg
      refine ⟨v, vs, rfl, r σ H m env x v e1 _ e ra c fun σ1 e2 n1 => ?_⟩
      refine z σ1 H m e1 xs vs env' Q e2 rb hg fun σ2 e3 n2 => k σ2 e3 ⟨n2.1.trans n1.1, fun j hj => ?_⟩
      rw [List.mem_append, not_or] at hj
      rw [n2.2 j hj.2, n1.2 j hj.1]
theorem jg_tup {es : List Expr} {k : Nat} {sl : List Nat} {h : List PV → Env → Option Env} {n : Nat} (hc : X.calm = true) (hg : JGs' X ca es sl h)
    (hn : (assignEach es X.env).length = n := by rfl) (hst : (assignEach es X.env).findIdx? (·.1) = none := by rfl) : JG' X ca (.Tuple es k pos) sl (tupG n h) := by
  obtain ⟨t, p, r⟩ := hg.ex
  refine ⟨_, pg_tup hc p hn hst, fun σ H m env v w env' Q e rv hh q => ?_⟩
  cases rv with
  | tup hs rs =>
    rename_i xs a vs
    simp only [tupG] at hh
    split at hh
    · rename_i hl
      exact ⟨a, vs, rfl, hs, by rw [← rs.length]; exact hl, r σ H m env xs vs env' Q e rs hh q⟩
    · cases hh
  | _ => cases hh
theorem js_asg {tg e : Expr} {sl : List Nat} {f : FE} {g : FG} (he : JE X W ca e f) (hg : JG' X ca tg sl g) (hs : swapsWithSole [tg] e pos.line X.env = pure false := by rfl) (hw : swappedStores [tg] e X.env = pure none := by rfl)
    (h1 : (assignEach [tg] X.env).map (·.2) = [assign tg X.env] := by rfl) : JS X W ca (.Assign [tg] e pos) (asgS g f) := by
  obtain ⟨t, p, r⟩ := he.ex
  obtain ⟨u, q, z⟩ := hg.ex
  refine ⟨_, ps_asg p q hs hw h1, fun σ H m env st D s e h => ?_⟩
  refine r σ H m env st _ s e (Post.toS h e fun v st1 m1 w H1 p1 k1 s1 r1 h2 => ?_)
  cases c : g v env with
  | none => rw [c] at h2; exact h2.elim
  | some e1 =>
    rw [c] at h2
    exact z σ H1 m1 env v w e1 _ (e.mono p1 k1) r1 c fun σ' e' _ => h2.nx s1 e'
/-- a store by values -/
def SetF (X : Cx) (ca : String → Addr) (g : PV → PV → PV → Store → Option Store) : Prop :=
  ∃ t, PSet X t ∧ ∀ H m st o i v o' i' v' st' Q, SR X.K ca H m st → VR X.K ca H m o o' → VR X.K ca H m i i' → VR X.K ca H m v v' → g o i v st = some st' → (∀ H', Keep X.K H H' → SR X.K ca H' m st' → Q H') → t o' i' v' H Q
theorem js_sub {o i e : Expr} {g : PV → PV → PV → Store → Option Store} {fv fo fi : FE} {pos' : Pos} (hs : SetF X ca g) (he : JE X W ca e fv) (ho : JE X W ca o fo) (hi : JE X W ca i fi)
    (ha : ∀ v, assign (.Subscript o i pos') X.env v = (do
      let ov ← holding [v] (eval o X.env)
      let iv ← holding [v, ov] (eval i X.env)
      standAt pos'
      holding [v, ov, iv] (setItem ov iv v)
      release [v, ov, iv] []) := by intro _; rfl)
    (hs1 : swapsWithSole [.Subscript o i pos'] e pos.line X.env = pure false := by rfl) (hw : swappedStores [.Subscript o i pos'] e X.env = pure none := by rfl)
    (h1 : (assignEach [.Subscript o i pos'] X.env).map (·.2) = [assign (.Subscript o i pos') X.env] := by rfl) : JS X W ca (.Assign [.Subscript o i pos'] e pos) (subS g fv fo fi) := by
  obtain ⟨t, p, r⟩ := he.ex
  obtain ⟨to, po, ro⟩ := ho.ex
  obtain ⟨ti, pi, ri⟩ := hi.ex
  obtain ⟨ts, pS, rs⟩ := hs
  refine ⟨_, ps_asg p (pg_sub po pi pS ha) hs1 hw h1, fun σ H m env st D s e h => ?_⟩
  refine r σ H m env st _ s e (Post.toS h e fun v st1 m1 v' H1 p1 k1 s1 r1 h2 => ?_)
  refine ro σ H1 m1 env st1 _ s1 (e.mono p1 k1) (Post.toS h2 (e.mono p1 k1) fun ov st2 m2 o' H2 p2 k2 s2 r2 h3 => ?_)
  have e2 := (e.mono p1 k1).mono p2 k2
  refine ri σ H2 m2 env st2 _ s2 e2 (Post.toS h3 e2 fun iv st3 m3 i' H3 p3 k3 s3 r3 h4 => ?_)
  cases c : g ov iv v st3 with
  | none => rw [c] at h4; exact h4.elim
  | some st4 =>
    rw [c] at h4
    refine rs H3 m3 st3 ov iv v o' i' v' st4 _ s3 (r2.mono p3 k3) r3 (r1.mono (p2.trans p3) (k2.trans k3)) c fun H4 k4 s4 => ?_
    exact h4 m3 σ H4 (List.prefix_refl _) k4 s4 ((e2.mono p3 k3).mono (List.prefix_refl _) k4)

/-! ### what is walked -/
structure Wk where
  its : List PV
  gd : List (Nat × PO)
abbrev FI := Env → Store → R Wk
def GdOk (gd : List (Nat × PO)) (st : Store) : Prop := ∀ p ∈ gd, st[p.1]? = some p.2
def ItR (K : PySem.W.Frag) (ca : String → Addr) (H : Hp) (m : List Addr) (k : Wk) (J : It) : Prop := ∀ (i : Nat) m' H' st', m <+: m' → Keep K H H' → SR K ca H' m' st' → GdOk k.gd st' →
  (∀ v, k.its[i]? = some v → J.go i H' ∧ ∀ x H'', J.yld i H' x H'' → Keep K H' H'' ∧ SR K ca H'' m' st' ∧ VR K ca H'' m' v x) ∧ (k.its.length ≤ i → J.stop i H')
structure JI (X : Cx) (W : WX) (ca : String → Addr) (tg iter : Expr) (f : FI) : Prop where
  ex : ∃ t, PI X tg iter t ∧ ∀ σ H m env st Q, SR X.K ca H m st → ER X.K ca H m env σ → Post X.K ca (ItR X.K ca) (EW W ca σ) m H Q (f env st) → t σ H Q
open Classical in
def forL (gd : List (Nat × PO)) (g : FG) (b : FS) : List PV → FS
  | [] => fun e st => if GdOk gd st then .nx e st else .no
  | x :: xs => fun e st => if GdOk gd st then
      (match g x e with
        | none => .no
        | some e1 => match b e1 st with
          | .nx e2 s2 => forL gd g b xs e2 s2
          | .ct e2 s2 => forL gd g b xs e2 s2
          | .bk e2 s2 => .nx e2 s2
          | r => r)
      else .no
def forS (fi : FI) (g : FG) (b : FS) : FS := fun e st => (fi e st).toS e fun k s1 => forL k.gd g b k.its e s1
theorem js_for {iter tg : Expr} {body : List Stmt} {sl : List Nat} {fi : FI} {g : FG} {b : FS} (hp : PassesOwn (model X.prog X.w) X.A X.env X.xe) (hc : X.calm = true) (hi : JI X W ca tg iter fi) (hg : JG' X ca tg sl g) (hb : JSs X W ca body b) (hs : ∀ x, foldedSetIterable iter X.env x = pure x := by intro _; rfl) :
    JS X W ca (.For tg iter body [] pos) (forS fi g b) := by
  obtain ⟨ti, pi, ri⟩ := hi.ex
  obtain ⟨tg', pg, rg⟩ := hg.ex
  obtain ⟨tb, pb, rb⟩ := hb.ex
  refine ⟨_, ps_for hp hc pi pg pb hs, fun σ H m env st D s e h => ?_⟩
  refine ri σ H m env st _ s e (Post.toS h e fun k st1 m1 J H1 p1 k1 s1 r1 h1 => ?_)
  refine ⟨fun i n σ' H' => ∃ m' env' st', m1 <+: m' ∧ Keep X.K H1 H' ∧ SR X.K ca H' m' st' ∧ ER X.K ca H' m' env' σ' ∧ i + n = k.its.length ∧ PostS X.K ca (EWs W ca) m' H' D (forL k.gd g b (k.its.drop i) env' st'),
    ⟨k.its.length, m1, env, st1, List.prefix_refl _, Keep.refl, s1, e.mono p1 k1, Nat.zero_add _, h1⟩, ?_⟩
  rintro i n σ' H' ⟨m', env', st', pm, km, s', e', en, h'⟩
  by_cases hlt : i < k.its.length
  · obtain ⟨v, hv⟩ : ∃ v, k.its[i]? = some v := ⟨_, List.getElem?_eq_getElem hlt⟩
    have hd : k.its.drop i = v :: k.its.drop (i + 1) := by
      have e1 := List.drop_eq_getElem_cons hlt
      rw [List.getElem?_eq_getElem hlt] at hv
      cases hv
      exact e1
    rw [hd] at h'
    unfold forL at h'
    split at h'
    · rename_i hgd
      obtain ⟨hgo, hy⟩ := (r1 i m' H' st' pm km s' hgd).1 v hv
      refine .inr ⟨hgo, fun σ2 H2 => ∃ m' env' st', m1 <+: m' ∧ Keep X.K H1 H2 ∧ SR X.K ca H2 m' st' ∧ ER X.K ca H2 m' env' σ2 ∧ (i + 1) + (n - 1) = k.its.length ∧ PostS X.K ca (EWs W ca) m' H2 D (forL k.gd g b (k.its.drop (i + 1)) env' st'), fun σ2 H2 hN => ⟨n - 1, by omega, hN⟩, fun x H2 hyl => ?_⟩
      obtain ⟨k2, s2, r2⟩ := hy x H2 hyl
      cases c : g v env' with
      | none => rw [c] at h'; exact h'.elim
      | some e1 =>
        rw [c] at h'
        refine rg σ' H2 m' env' v x e1 _ (e'.mono (List.prefix_refl _) k2) r2 c fun σ3 e3 _ => ?_
        refine rb σ3 H2 m' e1 st' _ s2 e3 ?_
        have h3 := PostS.mono h' (List.prefix_refl _) k2
        simp only at h3
        cases q : b e1 st' with
        | nx e4 s4 =>
          rw [q] at h3
          exact fun m5 σ5 H5 p5 k5 s5 e5 => ⟨m5, e4, s4, pm.trans p5, (km.trans k2).trans k5, s5, e5, by omega, PostS.mono h3 p5 k5⟩
        | ct e4 s4 =>
          rw [q] at h3
          exact fun m5 σ5 H5 p5 k5 s5 e5 => ⟨m5, e4, s4, pm.trans p5, (km.trans k2).trans k5, s5, e5, by omega, PostS.mono h3 p5 k5⟩
        | bk e4 s4 => rw [q] at h3; exact h3
        | rt v4 s4 => rw [q] at h3; exact h3
        | er x4 e4 s4 => rw [q] at h3; exact h3
        | no => rw [q] at h3; exact h3
    · exact h'.elim
  · rw [List.drop_eq_nil_of_le (by omega)] at h'
    unfold forL at h'
    split at h'
    · rename_i hgd
      exact .inl ⟨(r1 i m' H' st' pm km s' hgd).2 (by omega), h'.nx s' e'⟩
    · exact h'.elim

/-! ### while -/
def whL (c : FT) (b : FS) : Nat → FS
  | 0 => fun _ _ => .no
  | n + 1 => fun e st => (c e st).toS e fun k s1 => if k = true then
      (match b e s1 with
        | .nx e2 s2 => whL c b n e2 s2
        | .ct e2 s2 => whL c b n e2 s2
        | .bk e2 s2 => .nx e2 s2
        | r => r)
      else .nx e s1
@[irreducible] def FUEL : Nat := 1000000
theorem FUEL_eq : FUEL = 1000000 := by unfold FUEL; rfl
def whS (c : FT) (b : FS) : FS := whL c b FUEL
theorem js_while {c : Expr} {body : List Stmt} {fc : FT} {b : FS} (hp : PassesOwn (model X.prog X.w) X.A X.env X.xe) (hc : JT X W ca c fc) (hb : JSs X W ca body b) : JS X W ca (.While c body [] pos) (whS fc b) := by
  obtain ⟨tc, pc, rc⟩ := hc.ex
  obtain ⟨tb, pb, rb⟩ := hb.ex
  refine ⟨_, ps_while hp pc pb, fun σ H m env st D s e h => ?_⟩
  refine ⟨fun n σ' H' => ∃ m' env' st', SR X.K ca H' m' st' ∧ ER X.K ca H' m' env' σ' ∧ PostS X.K ca (EWs W ca) m' H' D (whL fc b n env' st'), ⟨FUEL, m, env, st, s, e, h⟩, ?_⟩
  rintro n σ' H' ⟨m', env', st', s', e', h'⟩
  cases n with
  | zero => exact h'.elim
  | succ n =>
    unfold whL at h'
    refine rc σ' H' m' env' st' _ s' e' (Post.toS h' e' fun k st1 m1 k' H1 p1 k1 s1 r1 h1 => ?_)
    have rk : k = k' := r1
    subst rk
    cases k with
    | false => exact h1.nx s1 (e'.mono p1 k1)
    | true =>
      rw [if_pos rfl] at h1 ⊢
      refine ⟨fun σ2 H2 => ∃ m' env' st', SR X.K ca H2 m' st' ∧ ER X.K ca H2 m' env' σ2 ∧ PostS X.K ca (EWs W ca) m' H2 D (whL fc b n env' st'), fun σ2 H2 hN => ⟨n, Nat.lt_succ_self _, hN⟩, ?_⟩
      refine rb σ' H1 m1 env' st1 _ s1 (e'.mono p1 k1) ?_
      cases q : b env' st1 with
      | nx e4 s4 =>
        rw [q] at h1
        exact fun m5 σ5 H5 p5 k5 s5 e5 => ⟨m5, e4, s4, s5, e5, PostS.mono h1 p5 k5⟩
      | ct e4 s4 =>
        rw [q] at h1
        exact fun m5 σ5 H5 p5 k5 s5 e5 => ⟨m5, e4, s4, s5, e5, PostS.mono h1 p5 k5⟩
      | bk e4 s4 => rw [q] at h1; exact h1
      | rt v4 s4 => rw [q] at h1; exact h1
      | er x4 e4 s4 => rw [q] at h1; exact h1
      | no => rw [q] at h1; exact h1
end
end
end FL
end
section
set_option linter.all false
set_option maxRecDepth 100000
namespace FL
open PySem PySem.Spec PyProof.Rows L2
noncomputable section

/-! ## comprehensions -/
def wipeE (e : Env) : List Nat → Env
  | [] => e
  | v :: vs => (wipeE e vs).set v none
theorem ER.wipe {K : PySem.W.Frag} {ca : String → Addr} {m : List Addr} {H : Hp} {e : Env} {σ : L2.St} (h : ER K ca H m e σ) : ∀ vs : List Nat, ER K ca H m (wipeE e vs) (wipe σ vs)
  | [] => h
  | v :: vs => by
    have ih := h.wipe vs
    unfold wipeE L2.wipe
    refine ⟨by rw [List.length_set, List.length_set, ih.1], fun j u q => ?_⟩
    by_cases hj : v = j
    · subst hj
      by_cases hv : v < (wipeE e vs).length
      · rw [List.getElem?_set_self hv] at q; cases q
      · rw [List.getElem?_eq_none (by simpa using hv)] at q; cases q
    · rw [List.getElem?_set_ne hj] at q ⊢
      exact ih.2 j u q
theorem wipe_at {σ : L2.St} {j : Nat} : ∀ {vs : List Nat}, (wipe σ vs)[j]? = if j ∈ vs then (if j < σ.length then some none else none) else σ[j]?
  | [] => by simp [wipe]
  | v :: vs => by
    unfold L2.wipe
    by_cases hj : v = j
    · subst hj
      rw [if_pos List.mem_cons_self]
      by_cases hv : v < σ.length
      · rw [if_pos hv, List.getElem?_set_self (by rw [wipe_length]; exact hv)]
      · rw [if_neg hv, List.getElem?_eq_none (by rw [List.length_set, wipe_length]; omega)]
    · rw [List.getElem?_set_ne hj, wipe_at (vs := vs)]
      have : (j ∈ v :: vs) ↔ j ∈ vs := by
        rw [List.mem_cons]
        exact ⟨fun q => q.resolve_left fun z => hj z.symm, .inr⟩
      simp only [this]
theorem wipe_same {σ τ : L2.St} {vs sl : List Nat} (hl : τ.length = σ.length) (hs : ∀ j ∈ sl, j ∈ vs) (h : ∀ j, j ∉ sl → τ[j]? = (wipe σ vs)[j]?) : wipe τ vs = wipe σ vs := by
  apply List.ext_getElem?
  intro j
  rw [wipe_at, wipe_at]
  by_cases hj : j ∈ vs
  · rw [if_pos hj, if_pos hj, hl]
  · rw [if_neg hj, if_neg hj, h j fun z => hj (hs j z), wipe_at, if_neg hj]
open Classical in
def lcL (gd : List (Nat × PO)) (g : FG) (ft : FT) (fe : FE) (n : Nat) (e0 : Env) : List PV → Store → O PV
  | [], st => if GdOk gd st then some (.ref n, st) else none
  | x :: xs, st => if GdOk gd st then
      (match g x e0 with
        | none => none
        | some e1 => match ft e1 st with
          | .ok true s1 => (match fe e1 s1 with
            | .ok v s2 => (match s2[n]? with
              | some (.lst acc) => if acc.length < sizeLine then lcL gd g ft fe n e0 xs (s2.set n (.lst (acc ++ [v]))) else none
              | _ => none)
            | _ => none)
          | .ok false s1 => lcL gd g ft fe n e0 xs s1
          | _ => none)
      else none
def yesT : FT := fun _ st => .ok true st
def lcF (fi : FI) (own : List Nat) (g : FG) (ft : FT) (fe : FE) : FE := fun e st => (fi e st).bind fun k s1 => R.of (lcL k.gd g ft fe s1.length (wipeE e own) k.its (s1 ++ [.lst []]))

section
variable {X : Cx} {W : WX} {ca : String → Addr} {pos : Pos}
abbrev W0 : WX := fun _ _ _ _ => False
/-- a clause's tests -/
structure JTs (X : Cx) (W : WX) (ca : String → Addr) (es : List Expr) (f : FT) : Prop where
  ex : ∃ t, PTs X es t ∧ ∀ σ H m env st Q, SR X.K ca H m st → ER X.K ca H m env σ → Post X.K ca rB (EW W ca σ) m H Q (f env st) → t σ H Q
theorem jts_nil : JTs X W ca [] yesT := ⟨_, pts_nil, fun σ H m env st Q s e h => h.ok s rfl⟩
theorem jts_one {c : Expr} {f : FT} (h : JT X W ca c f) : JTs X W ca [c] f := by
  obtain ⟨t, p, r⟩ := h.ex
  exact ⟨_, pts_one p, r⟩
/-- what a comprehension's reading asks, from what it does -/
theorem lc_ok {ti : TI} {tg : TG} {tt : TT} {te : TE} {fi : FI} {own sl : List Nat} {g : FG} {ft : FT} {fe : FE} (hsl : ∀ j ∈ sl, j ∈ own)
    (ri : ∀ σ H m env st Q, SR X.K ca H m st → ER X.K ca H m env σ → Post X.K ca (ItR X.K ca) (EW W ca σ) m H Q (fi env st) → ti σ H Q)
    (rg : ∀ σ H m env v w env' Q, ER X.K ca H m env σ → VR X.K ca H m v w → g v env = some env' → (∀ σ', ER X.K ca H m env' σ' → (σ'.length = σ.length ∧ ∀ j, j ∉ sl → σ'[j]? = σ[j]?) → Q σ' H) → tg w σ H Q)
    (rt : ∀ σ H m env st Q, SR X.K ca H m st → ER X.K ca H m env σ → Post X.K ca rB (EW W0 ca σ) m H Q (ft env st) → tt σ H Q)
    (re : ∀ σ H m env st Q, SR X.K ca H m st → ER X.K ca H m env σ → Post X.K ca (VR X.K ca) (EW W0 ca σ) m H Q (fe env st) → te σ H Q)
    {σ : L2.St} {H : Hp} {m : List Addr} {env : Env} {st : Store} {Q : VK} (s : SR X.K ca H m st) (e : ER X.K ca H m env σ) (h : Post X.K ca (VR X.K ca) (EW W ca σ) m H Q (lcF fi own g ft fe env st)) : tLc ti tg tt te own σ H Q := by
  refine ri σ H m env st _ s e (Post.bind h fun k st1 m1 J H1 p1 k1 s1 r1 h1 => ?_)
  intro D hD
  obtain ⟨pD, kD, sD, rD⟩ := upd_l (K := X.K) (ca := ca) (xs := []) (vs := []) s1 hD .nil
  refine ⟨fun i n H' => ∃ m' st', m1 ++ [D] <+: m' ∧ Keep X.K H1 H' ∧ SR X.K ca H' m' st' ∧ i + n = k.its.length ∧ Post0 X.K ca (VR X.K ca) m' H' Q (lcL k.gd g ft fe st1.length (wipeE env own) (k.its.drop i) st'),
    ⟨k.its.length, m1 ++ [D], st1 ++ [.lst []], List.prefix_refl _, kD, sD, Nat.zero_add _, Post0.mono h1.of pD kD⟩, ?_⟩
  rintro i n H' ⟨m', st', pm, km, s', en, h'⟩
  have pm1 : m1 <+: m' := pD.trans pm
  have hn : m'[st1.length]? = some D := pre_get pm (by rw [← s1.len, List.getElem?_append_right (Nat.le_refl _), Nat.sub_self]; rfl)
  by_cases hlt : i < k.its.length
  · obtain ⟨v, hv⟩ : ∃ v, k.its[i]? = some v := ⟨_, List.getElem?_eq_getElem hlt⟩
    have hd : k.its.drop i = v :: k.its.drop (i + 1) := by
      have e1 := List.drop_eq_getElem_cons hlt
      rw [List.getElem?_eq_getElem hlt] at hv
      cases hv
      exact e1
    rw [hd] at h'
    unfold lcL at h'
    split at h'
    · rename_i hgd
      obtain ⟨hgo, hy⟩ := (r1 i m' H' st' pm1 km s' hgd).1 v hv
      refine .inr ⟨hgo, fun H2 => ∃ m' st', m1 ++ [D] <+: m' ∧ Keep X.K H1 H2 ∧ SR X.K ca H2 m' st' ∧ (i + 1) + (n - 1) = k.its.length ∧ Post0 X.K ca (VR X.K ca) m' H2 Q (lcL k.gd g ft fe st1.length (wipeE env own) (k.its.drop (i + 1)) st'), fun H2 hN => ⟨n - 1, by omega, hN⟩, fun x H2 hyl => ?_⟩
      obtain ⟨k2, s2, r2⟩ := hy x H2 hyl
      have ew : ER X.K ca H2 m' (wipeE env own) (wipe σ own) := ((e.mono (p1.trans pm1) ((k1.trans km).trans k2))).wipe own
      cases c : g v (wipeE env own) with
      | none => rw [c] at h'; exact h'.elim
      | some e1 =>
        rw [c] at h'
        refine rg (wipe σ own) H2 m' (wipeE env own) v x e1 _ ew r2 c fun σ3 e3 n3 => ⟨wipe_same (n3.1.trans (wipe_length _ _)) hsl n3.2, ?_⟩
        have h3 := Post0.mono h' (List.prefix_refl _) k2
        simp only at h3
        refine rt σ3 H2 m' e1 st' _ s2 e3 ?_
        cases q : ft e1 st' with
        | er x4 s4 => rw [q] at h3; exact h3.elim
        | no => rw [q] at h3; exact h3.elim
        | ok kk s4 =>
          rw [q] at h3
          intro m5 b H5 p5 k5 s5 e5
          have eb : kk = b := e5
          subst eb
          cases kk with
          | false =>
            rw [if_neg Bool.false_ne_true]
            exact ⟨m5, s4, pm.trans p5, (km.trans k2).trans k5, s5, by omega, Post0.mono h3 p5 k5⟩
          | true =>
            rw [if_pos rfl]
            refine re σ3 H5 m5 e1 s4 _ s5 (e3.mono p5 k5) ?_
            simp only at h3
            cases q2 : fe e1 s4 with
            | er x6 s6 => rw [q2] at h3; exact h3.elim
            | no => rw [q2] at h3; exact h3.elim
            | ok y s6 =>
              rw [q2] at h3
              simp only at h3
              intro m7 y' H7 p7 k7 s7 r7
              split at h3
              · rename_i acc hacc
                obtain ⟨vs, ha, ra⟩ := s7.at hacc (pre_get (p5.trans p7) hn)
                split at h3
                · rename_i hz
                  refine ⟨vs, ha, by rw [← ra.length]; exact hz, ?_⟩
                  have kk := Keep.upd (K := X.K) (o := .lst (vs ++ [y'])) ha (fun _ z => nomatch z) (fun _ _ z => nomatch z)
                  have ss := s7.set (o := .lst (vs ++ [y'])) (ob := .lst (acc ++ [y])) (pre_get (p5.trans p7) hn) ha (fun _ z => nomatch z) (fun _ _ z => nomatch z) ⟨_, upd_same, (ra.mono (List.prefix_refl _) kk).append (.cons (r7.mono (List.prefix_refl _) kk) .nil)⟩
                  exact ⟨m7, _, (pm.trans p5).trans p7, (((km.trans k2).trans k5).trans k7).trans kk, ss, by omega, Post0.mono h3 (p5.trans p7) ((k5.trans k7).trans kk)⟩
                · exact h3.elim
              · exact h3.elim
    · exact h'.elim
  · rw [List.drop_eq_nil_of_le (by omega)] at h'
    unfold lcL at h'
    split at h'
    · rename_i hgd
      exact .inl ⟨(r1 i m' H' st' pm1 km s' hgd).2 (by omega), h' m' _ H' (List.prefix_refl _) Keep.refl s' (.ref hn)⟩
    · exact h'.elim
theorem je_lc {elt tg iter : Expr} {ifs : List Expr} {scope : Scope} {own : List (Str × Nat)} {sl : List Nat} {fi : FI} {g : FG} {ft : FT} {fe : FE} (hc : X.calm = true) (hN : X.N.Nodup) (hi : JI X W ca tg iter fi) (ok : BlkOk X.N X.env.scope scope own) (hsl : ∀ j ∈ sl, j ∈ own.map (·.2))
    (hg : ∀ (s : Shared) (H : Hp) (C : Addr) (cl : List (Str × Addr)) (fp : List Addr), JG' (X.blk s H scope (compEnvC scope cl C X.env) fp) ca tg sl g)
    (ht : ∀ (s : Shared) (H : Hp) (C : Addr) (cl : List (Str × Addr)) (fp : List Addr), JTs (X.blk s H scope (compEnvC scope cl C X.env) fp) W0 ca ifs ft)
    (he : ∀ (s : Shared) (H : Hp) (C : Addr) (cl : List (Str × Addr)) (fp : List Addr), JE (X.blk s H scope (compEnvC scope cl C X.env) fp) W0 ca elt fe) (hs : ∀ x, foldedSetIterable iter X.env x = pure x := by intro _; rfl) :
    JE X W ca (.ListComp elt [⟨tg, iter, ifs, 0⟩] scope pos) (lcF fi (own.map (·.2)) g ft fe) := by
  obtain ⟨ti, pi, ri⟩ := hi.ex
  refine ⟨_, pe_lc (g := fun v σ H Q => ∀ s0 H0 C cl fp, (hg s0 H0 C cl fp).ex.choose v σ H Q) (tt := fun σ H Q => ∀ s0 H0 C cl fp, (ht s0 H0 C cl fp).ex.choose σ H Q) (te := fun σ H Q => ∀ s0 H0 C cl fp, (he s0 H0 C cl fp).ex.choose σ H Q) hc hN pi ok
    (fun s0 H0 C cl fp => ⟨fun pins s σ H v u Q I r h => (hg s0 H0 C cl fp).ex.choose_spec.1.run pins s σ H v u Q I r (h s0 H0 C cl fp)⟩)
    (fun s0 H0 C cl fp => ⟨fun pins s σ H Q I h => (ht s0 H0 C cl fp).ex.choose_spec.1.run pins s σ H Q I (h s0 H0 C cl fp)⟩)
    (fun s0 H0 C cl fp => ⟨fun pins s σ H Q I h => (he s0 H0 C cl fp).ex.choose_spec.1.run pins s σ H Q I (h s0 H0 C cl fp)⟩) hs, fun σ H m env st Q s e h => ?_⟩
  refine lc_ok hsl ri (fun σ H m env v w env' Q er rv hh q s0 H0 C cl fp => (hg s0 H0 C cl fp).ex.choose_spec.2 σ H m env v w env' Q er rv hh q) (fun σ H m env st Q s e h s0 H0 C cl fp => (ht s0 H0 C cl fp).ex.choose_spec.2 σ H m env st Q s e h)
    (fun σ H m env st Q s e h s0 H0 C cl fp => (he s0 H0 C cl fp).ex.choose_spec.2 σ H m env st Q s e h) s e h
theorem js_lc {i : Nat} {y : Str} {py : Pos} {elt tg iter : Expr} {ifs : List Expr} {scope : Scope} {own : List (Str × Nat)} {sl : List Nat} {spos : Pos} {fi : FI} {g : FG} {ft : FT} {fe : FE} (hc : X.calm = true) (hN : X.N.Nodup) (hy : X.N[i]? = some y) (hyl : X.env.scope.names.lookup y = some .local)
    (hsw : swapsWith (.ListComp elt [⟨tg, iter, ifs, 0⟩] scope pos) (some (.Name y py)) spos.line X.env = pure true) (hi : JI X W ca tg iter fi) (ok : BlkOk X.N X.env.scope scope own) (hsl : ∀ j ∈ sl, j ∈ own.map (·.2))
    (hg : ∀ (s : Shared) (H : Hp) (C : Addr) (cl : List (Str × Addr)) (fp : List Addr), JG' (X.blk s H scope (compEnvC scope cl C X.env) fp) ca tg sl g)
    (ht : ∀ (s : Shared) (H : Hp) (C : Addr) (cl : List (Str × Addr)) (fp : List Addr), JTs (X.blk s H scope (compEnvC scope cl C X.env) fp) W0 ca ifs ft)
    (he : ∀ (s : Shared) (H : Hp) (C : Addr) (cl : List (Str × Addr)) (fp : List Addr), JE (X.blk s H scope (compEnvC scope cl C X.env) fp) W0 ca elt fe) (hs : ∀ x, foldedSetIterable iter X.env x = pure x := by intro _; rfl) :
    JS X W ca (.Assign [.Name y py] (.ListComp elt [⟨tg, iter, ifs, 0⟩] scope pos) spos) (setS i (lcF fi (own.map (·.2)) g ft fe)) := by
  obtain ⟨ti, pi, ri⟩ := hi.ex
  refine ⟨_, ps_setLc (g := fun v σ H Q => ∀ s0 H0 C cl fp, (hg s0 H0 C cl fp).ex.choose v σ H Q) (tt := fun σ H Q => ∀ s0 H0 C cl fp, (ht s0 H0 C cl fp).ex.choose σ H Q) (te := fun σ H Q => ∀ s0 H0 C cl fp, (he s0 H0 C cl fp).ex.choose σ H Q) hc hN hy hyl hsw pi ok
    (fun s0 H0 C cl fp => ⟨fun pins s σ H v u Q I r h => (hg s0 H0 C cl fp).ex.choose_spec.1.run pins s σ H v u Q I r (h s0 H0 C cl fp)⟩)
    (fun s0 H0 C cl fp => ⟨fun pins s σ H Q I h => (ht s0 H0 C cl fp).ex.choose_spec.1.run pins s σ H Q I (h s0 H0 C cl fp)⟩)
    (fun s0 H0 C cl fp => ⟨fun pins s σ H Q I h => (he s0 H0 C cl fp).ex.choose_spec.1.run pins s σ H Q I (h s0 H0 C cl fp)⟩) hs, fun σ H m env st D s e h => ?_⟩
  refine lc_ok (W := W) hsl ri (fun σ H m env v w env' Q er rv hh q s0 H0 C cl fp => (hg s0 H0 C cl fp).ex.choose_spec.2 σ H m env v w env' Q er rv hh q) (fun σ H m env st Q s e h s0 H0 C cl fp => (ht s0 H0 C cl fp).ex.choose_spec.2 σ H m env st Q s e h)
    (fun σ H m env st Q s e h s0 H0 C cl fp => (he s0 H0 C cl fp).ex.choose_spec.2 σ H m env st Q s e h) s e ?_
  exact Post.toS h e fun v st1 m1 w H1 p1 k1 s1 r1 h1 => h1.nx s1 ((e.mono p1 k1).set r1 i)
end

/-! ## a def's end: what it made and nobody holds is forgotten -/
mutual
def refsOk (n : Nat) : PV → Bool
  | .ref k => decide (k < n)
  | .tup xs => refsOks n xs
  | .frz xs => refsOks n xs
  | _ => true
def refsOks (n : Nat) : List PV → Bool
  | [] => true
  | x :: xs => refsOk n x && refsOks n xs
end
def objOk (n : Nat) : PO → Bool
  | .lst xs => refsOks n xs
  | .dK kvs => refsOks n (kvs.map (·.2))
  | .dN kvs => false
  | .ins _ fs => refsOks n (fs.map (·.2))
/-- what stood ahead stands as it was, or holds nothing that was made since -/
def preOk (st0 st : Store) : Prop := ∀ k, k < st0.length → st[k]? = st0[k]? ∨ ∃ o, st[k]? = some o ∧ objOk st0.length o = true
open Classical in
def gc (st0 : Store) (v : PV) (st : Store) : R PV :=
  if st0.length ≤ st.length ∧ preOk st0 st then
    if refsOk st0.length v = true then .ok v (st.take st0.length)
    else match v with
      | .ref r => (match st[r]? with
        | some o => if objOk st0.length o = true ∧ st0.length ≤ r then .ok (.ref st0.length) (st.take st0.length ++ [o]) else .ok v st
        | none => .no)
      | _ => .ok v st
  else .ok v st
open Classical in
def gcx (st0 : Store) (x : Ex) (st : Store) : R PV :=
  if st0.length ≤ st.length ∧ preOk st0 st ∧ (∀ p, x.val = some p → refsOk st0.length p.2 = true) then .er x (st.take st0.length) else .er x st
def runFn (n : Nat) (body : FS) : Fn := fun args st => match body (args.map some ++ List.replicate (n - args.length) none) st with
  | .nx _ s => gc st .non s
  | .rt v s => gc st v s
  | .er x _ s => gcx st x s
  | _ => .no
section
variable {K : PySem.W.Frag} {ca : String → Addr} {m m' : List Addr} {H H' : Hp}
mutual
theorem VR.cutB (n : Nat) (hn : m.length = n) (p : m <+: m') : ∀ {x : PV} {v : V}, VR K ca H' m' x v → refsOk n x = true → VR K ca H' m x v
  | _, _, .non, _ => .non
  | _, _, .bl b, _ => .bl b
  | _, _, .int i, _ => .int i
  | _, _, .str x, _ => .str x
  | _, _, .ty n, _ => .ty n
  | _, _, .cls n, _ => .cls n
  | _, _, .ref h, e => .ref (by
      simp only [refsOk, decide_eq_true_eq] at e
      obtain ⟨l, rfl⟩ := p
      rw [List.getElem?_append_left (by omega)] at h
      exact h)
  | _, _, .tup h r, e => .tup h (VRs.cutB n hn p r (by simpa only [refsOk] using e))
  | _, _, .frz h r, e => .frz h (VRs.cutB n hn p r (by simpa only [refsOk] using e))
theorem VRs.cutB (n : Nat) (hn : m.length = n) (p : m <+: m') : ∀ {xs : List PV} {vs : List V}, VRs K ca H' m' xs vs → refsOks n xs = true → VRs K ca H' m xs vs
  | _, _, .nil, _ => .nil
  | _, _, .cons h r, e => by
    simp only [refsOks, Bool.and_eq_true] at e
    exact .cons (VR.cutB n hn p h e.1) (VRs.cutB n hn p r e.2)
end
mutual
theorem VR.refs (n : Nat) (hn : m.length = n) : ∀ {x : PV} {v : V}, VR K ca H m x v → refsOk n x = true
  | _, _, .non => rfl
  | _, _, .bl b => rfl
  | _, _, .int i => rfl
  | _, _, .str x => rfl
  | _, _, .ty n => rfl
  | _, _, .cls n => rfl
  | _, _, .ref h => by
      simp only [refsOk, decide_eq_true_eq]
      have := (List.getElem?_eq_some_iff.mp h).1
      omega
  | _, _, .tup h r => by simpa only [refsOk] using VRs.refs n hn r
  | _, _, .frz h r => by simpa only [refsOk] using VRs.refs n hn r
theorem VRs.refs (n : Nat) (hn : m.length = n) : ∀ {xs : List PV} {vs : List V}, VRs K ca H m xs vs → refsOks n xs = true
  | _, _, .nil => rfl
  | _, _, .cons h r => by simp only [refsOks, Bool.and_eq_true]; exact ⟨VR.refs n hn h, VRs.refs n hn r⟩
end
theorem KR.cutB {κ : Type} (n : Nat) (hn : m.length = n) (p : m <+: m') {a : List (κ × PV)} {b : List (κ × V)} (h : KR K ca H' m' a b) (e : refsOks n (a.map (·.2)) = true) : KR K ca H' m a b := by
  induction h with
  | nil => exact .nil
  | cons r t ih =>
    simp only [List.map_cons, refsOks, Bool.and_eq_true] at e
    exact .cons ⟨r.1, r.2.cutB n hn p e.1⟩ (ih e.2)
theorem KR.refs {κ : Type} (n : Nat) (hn : m.length = n) {a : List (κ × PV)} {b : List (κ × V)} (h : KR K ca H m a b) : refsOks n (a.map (·.2)) = true := by
  induction h with
  | nil => rfl
  | cons r t ih =>
    simp only [List.map_cons, refsOks, Bool.and_eq_true]
    exact ⟨r.2.refs n hn, ih⟩
theorem OR.cutB (n : Nat) (hn : m.length = n) (p : m <+: m') {a : Addr} {o : PO} (h : OR K ca H' m' a o) (e : objOk n o = true) : OR K ca H' m a o := by
  cases o with
  | lst xs => obtain ⟨vs, q, r⟩ := h; exact ⟨vs, q, r.cutB n hn p e⟩
  | dK kvs => obtain ⟨vs, q, r⟩ := h; exact ⟨vs, q, r.cutB n hn p e⟩
  | dN kvs => exact h.elim
  | ins c fs => obtain ⟨dx, vs, q, r⟩ := h; exact ⟨dx, vs, q, r.cutB n hn p e⟩
theorem OR.refs (n : Nat) (hn : m.length = n) {a : Addr} {o : PO} (h : OR K ca H m a o) : objOk n o = true := by
  cases o with
  | lst xs => obtain ⟨vs, q, r⟩ := h; exact r.refs n hn
  | dK kvs => obtain ⟨vs, q, r⟩ := h; exact r.refs n hn
  | dN kvs => exact h.elim
  | ins c fs => obtain ⟨dx, vs, q, r⟩ := h; exact r.refs n hn
/-- the store cut back -/
theorem SR.cut {st0 st : Store} (s0 : SR K ca H m st0) (s : SR K ca H' m' st) (p : m <+: m') (h : preOk st0 st) : SR K ca H' m (st.take st0.length) := by
  have hl : m.length ≤ m'.length := p.length_le
  refine ⟨by rw [List.length_take, ← s.len, ← s0.len]; omega, s.nd.sublist p.sublist, fun n a o ha ho => ?_⟩
  have hn : n < m.length := (List.getElem?_eq_some_iff.mp ha).1
  rw [List.getElem?_take_of_lt (by rw [← s0.len]; exact hn)] at ho
  have r := s.ob n a o (pre_get p ha) ho
  refine r.cutB _ rfl p ?_
  rcases h n (by rw [← s0.len]; exact hn) with q | ⟨o', q, z⟩
  · rw [ho] at q
    exact (s0.ob n a o ha q.symm).refs _ rfl
  · rw [ho] at q
    cases q
    rw [s0.len]
    exact z
theorem Post.gc {E : Ex → Option Addr → Hp → Prop} {Q : VK} {st0 st : Store} {v : PV} (s0 : SR K ca H m st0) (h : Post K ca (VR K ca) E m H Q (gc st0 v st)) :
    ∀ m' w H', m <+: m' → Keep K H H' → SR K ca H' m' st → VR K ca H' m' v w → Q w H' := by
  intro m' w H' p k s r
  unfold FL.gc at h
  split at h
  · rename_i hp
    split at h
    · rename_i hr
      exact h m w H' (List.prefix_refl _) k (s0.cut s p hp.2) (r.cutB _ s0.len p hr)
    · split at h
      · rename_i rr hr
        split at h
        · rename_i o ho
          split at h
          · rename_i hob
            cases r with
            | ref ha =>
              rename_i a
              have sc := s0.cut s p hp.2
              have lm : (st.take st0.length).length = m.length := by rw [sc.len]
              have na : a ∉ m := fun hm => by
                obtain ⟨i, hi, e⟩ := List.getElem_of_mem hm
                have e1 : m'[i]? = some a := pre_get p (by rw [List.getElem?_eq_getElem hi, e])
                obtain ⟨l1, z1⟩ := List.getElem?_eq_some_iff.mp e1
                obtain ⟨l2, z2⟩ := List.getElem?_eq_some_iff.mp ha
                have := (List.getElem_inj s.nd).mp (z1.trans z2.symm)
                have := hob.2
                rw [← s0.len] at this
                omega
              refine h (m ++ [a]) _ H' (List.prefix_append _ _) k ?_ (.ref (by rw [← s0.len, List.getElem?_append_right (Nat.le_refl _), Nat.sub_self]; rfl))
              refine ⟨by rw [List.length_append, List.length_append, lm] <;> rfl, ?_, fun n b u hb hu => ?_⟩
              · rw [List.nodup_append]
                refine ⟨sc.nd, List.nodup_cons.mpr ⟨List.not_mem_nil, List.nodup_nil⟩, fun x hx y hy => ?_⟩
                obtain rfl := List.mem_singleton.mp hy
                exact fun z => na (z ▸ hx)
              · by_cases hn : n < m.length
                · rw [List.getElem?_append_left hn] at hb
                  rw [List.getElem?_append_left (by rw [lm]; exact hn)] at hu
                  exact (sc.ob n b u hb hu).mono (List.prefix_append _ _) Keep.refl rfl
                · have e : n = m.length := by
                    have := (List.getElem?_eq_some_iff.mp hb).1
                    rw [List.length_append, List.length_singleton] at this
                    omega
                  subst e
                  rw [List.getElem?_append_right (Nat.le_refl _), Nat.sub_self] at hb
                  rw [← lm, List.getElem?_append_right (Nat.le_refl _), Nat.sub_self] at hu
                  cases hb
                  cases hu
                  exact ((s.at ho ha).cutB _ s0.len p hob.1).mono (List.prefix_append _ _) Keep.refl rfl
          · exact h m' w H' p k s r
        · exact h.elim
      · exact h m' w H' p k s r
  · exact h m' w H' p k s r
theorem Post.gcx {E : Ex → Option Addr → Hp → Prop} {Q : VK} {st0 st : Store} {x : Ex} (s0 : SR K ca H m st0) (h : Post K ca (VR K ca) E m H Q (gcx st0 x st)) :
    ∀ m' d H', m <+: m' → Keep K H H' → SR K ca H' m' st → XR K ca H' m' x d → E x d H' := by
  intro m' d H' p k s r
  unfold FL.gcx at h
  split at h
  · rename_i hp
    refine h m d H' (List.prefix_refl _) k (s0.cut s p hp.2.1) ?_
    obtain ⟨c, val⟩ := x
    cases val with
    | none => exact r
    | some q =>
      obtain ⟨a, w, e1, e2, e3⟩ := r
      exact ⟨a, w, e1, e2, e3.cutB _ s0.len p (hp.2.2 _ rfl)⟩
  · exact h m' d H' p k s r
end

/-! ## a def by its body -/
section
variable {P : Program} {w : World} {K : PySem.W.Frag} {mg : Str → Option Value} {base : Heap} {ca : String → Addr}
theorem er_start {H : Hp} {m : List Addr} {N : List Str} {xs : List PV} {vs : List V} (r : VRs K ca H m xs vs) : ER K ca H m (xs.map some ++ List.replicate (N.length - xs.length) none) (L2.start N vs) := by
  unfold L2.start
  refine ⟨by rw [List.length_append, List.length_append, List.length_map, List.length_map, List.length_replicate, List.length_replicate, r.length], fun i v h => ?_⟩
  by_cases hi : i < xs.length
  · rw [List.getElem?_append_left (by simpa using hi), List.getElem?_map] at h
    cases q : xs[i]? with
    | none => rw [q] at h; cases h
    | some x =>
      rw [q] at h
      cases h
      obtain ⟨w, h1, h2⟩ := r.get q
      refine ⟨w, ?_, h2⟩
      rw [List.getElem?_append_left (by rw [List.length_map, ← r.length]; exact hi), List.getElem?_map, h1]
      rfl
  · rw [List.getElem?_append_right (by simpa using hi), List.getElem?_replicate] at h
    split at h <;> cases h
/-- THE RULE of a def -/
theorem cal_mk {x qual : Str} {st : Stmt} {f : Addr} {fd : FuncData} {N ps : List Str} {k n : Nat} {body : FS} (F : L2.Fun K x qual st f fd) (S : FnScope N ps (defScope st)) (hn : N.length = n)
    (hbody : ∀ (cdv : Value) (A : Around) (outer : List PySem.Env) (s : Shared) (H : Hp) (E : XK), Room k (A.deeper (envOfC qual (defScope st) s.heap.objs.size f cdv)) →
      Takes (cxOf (L2.CX P w) P w K mg base N qual (defScope st) f cdv A outer s H E) (fun cls d _ H => E cls d H) →
      PassesOwn (model P w) (cxOf (L2.CX P w) P w K mg base N qual (defScope st) f cdv A outer s H E).A (cxOf (L2.CX P w) P w K mg base N qual (defScope st) f cdv A outer s H E).env (cxOf (L2.CX P w) P w K mg base N qual (defScope st) f cdv A outer s H E).xe →
      JSs (cxOf (L2.CX P w) P w K mg base N qual (defScope st) f cdv A outer s H E) (fun cls d _ H => E cls d H) ca (defBody st) body) :
    Cal P w K mg base ca (k + 1) f fd ps (runFn n body) := by
  subst hn
  refine ⟨Fun.okX F S (fun vs H Q E h => ?_) (fun cdv A outer s H vs Q E hr h => ?_), F.kp⟩
  · obtain ⟨m, st, xs, _, r, hl, _⟩ := h
    rw [← r.length, hl]
  · obtain ⟨m, st, xs, s0, r, hl, h⟩ := h
    obtain ⟨t, p, z⟩ := (hbody cdv A outer s H E hr (takes_of rfl rfl rfl rfl) (passes_of rfl)).ex
    refine ⟨t, p, z _ H m (xs.map some ++ List.replicate (N.length - xs.length) none) st _ s0 (er_start r) ?_⟩
    unfold runFn at h
    cases q : body (xs.map some ++ List.replicate (N.length - xs.length) none) st with
    | nx e1 s1 => rw [q] at h; exact fun m1 σ1 H1 p1 k1 s2 _ => h.gc s0 m1 _ H1 p1 k1 s2 .non
    | rt v s1 => rw [q] at h; exact fun m1 w1 H1 p1 k1 s2 r1 => h.gc s0 m1 w1 H1 p1 k1 s2 r1
    | er x e1 s1 => rw [q] at h; exact fun m1 d σ1 H1 p1 k1 s2 _ r1 => h.gcx s0 m1 d H1 p1 k1 s2 r1
    | bk e1 s1 => rw [q] at h; exact h.elim
    | ct e1 s1 => rw [q] at h; exact h.elim
    | no => rw [q] at h; exact h.elim
/-- no call is left -/
def fn0 : Fn := fun _ _ => .no
theorem cal_0 {f : Addr} {fd : FuncData} {ps : List Str} (kp : PySem.W.keepIn K (.ref f) = true) : Cal P w K mg base ca 0 f fd ps fn0 := by
  have no : ∀ vs H Q E, ¬ spF K ca ps.length fn0 vs H Q E := fun vs H Q E h => by
    obtain ⟨m, st, xs, _, _, _, h⟩ := h
    exact h
  exact ⟨⟨fun vs H Q E h => absurd h (no vs H Q E), fun A outer s H args us vs Q E _ _ _ _ h => absurd h (no vs H Q E)⟩, kp⟩
end
end
end FL
end
section
set_option linter.all false
set_option maxRecDepth 100000
namespace FL
open PySem PySem.Spec PyProof.Rows L2
noncomputable section
section
variable {K : PySem.W.Frag} {ca : String → Addr} {m m' : List Addr} {H H' : Hp} {st : Store} {Q : VK}
theorem Post0.val {v : PV} {w : V} (h : Post0 K ca (VR K ca) m H Q (some (v, st))) (s : SR K ca H m st) (r : VR K ca H m v w) : Q w H := h m w H (List.prefix_refl _) Keep.refl s r
theorem Post0.newL {xs : List PV} {vs : List V} {p : Addr} (h : Post0 K ca (VR K ca) m H Q (some (.ref st.length, st ++ [.lst xs]))) (s : SR K ca H m st) (r : VRs K ca H m xs vs) (hp : H p = none) : Q (.ref p) (upd H p (.lst vs)) := by
  obtain ⟨a, b, c, d⟩ := upd_l s hp r
  exact h _ _ _ a b c d
theorem Post0.newT {xs : List PV} {vs : List V} {p : Addr} (h : Post0 K ca (VR K ca) m H Q (some (.tup xs, st))) (s : SR K ca H m st) (r : VRs K ca H m xs vs) (hp : H p = none) : Q (.ref p) (upd H p (.tup vs)) := by
  obtain ⟨a, b, c⟩ := upd_t s hp r
  exact h m _ _ (List.prefix_refl _) a b c
/-- a list of the store, changed -/
theorem Post0.setL {n : Nat} {a : Addr} {ys : List PV} {vs ws : List V} {v : PV} {w : V} (h : Post0 K ca (VR K ca) m H Q (some (v, st.set n (.lst ys)))) (s : SR K ca H m st) (ha : m[n]? = some a) (hH : H a = some (.lst vs)) (r : VRs K ca H m ys ws) (rv : VR K ca H m v w) : Q w (upd H a (.lst ws)) := by
  have kk := Keep.upd (K := K) (o := .lst ws) hH (fun _ z => nomatch z) (fun _ _ z => nomatch z)
  exact h m w _ (List.prefix_refl _) kk (s.set ha hH (fun _ z => nomatch z) (fun _ _ z => nomatch z) ⟨_, upd_same, r.mono (List.prefix_refl _) kk⟩) (rv.mono (List.prefix_refl _) kk)
theorem getL (s : SR K ca H m st) {n : Nat} {a : Addr} {xs : List PV} (h : st[n]? = some (.lst xs)) (ha : m[n]? = some a) : ∃ vs, H a = some (.lst vs) ∧ VRs K ca H m xs vs := s.at h ha
end

/-! ## arithmetic -/
def addV (x y : PV) (st : Store) : O PV := match x, y with
  | .int i, .int j => some (.int (i + j), st)
  | .str a, .str b => if a.length + b.length ≤ sizeLine then some (.str (a ++ b), st) else none
  | .tup xs, .tup ys => if xs.length + ys.length ≤ sizeLine then some (.tup (xs ++ ys), st) else none
  | .ref a, .ref b => match st[a]?, st[b]? with
    | some (.lst xs), some (.lst ys) => if xs.length + ys.length ≤ sizeLine then some (.ref st.length, st ++ [.lst (xs ++ ys)]) else none
    | _, _ => none
  | _, _ => none
def iaddV (x y : PV) (st : Store) : O PV := match x, y with
  | .int i, .int j => some (.int (i + j), st)
  | .str a, .str b => if a.length + b.length ≤ sizeLine then some (.str (a ++ b), st) else none
  | _, _ => none
def subV (x y : PV) (st : Store) : O PV := match x, y with
  | .int i, .int j => some (.int (i - j), st)
  | _, _ => none
def mulOk (i j : Int) : Bool := decide (i.natAbs.log2 + j.natAbs.log2 < 100000000)
def mulV (x y : PV) (st : Store) : O PV := match x, y with
  | .int i, .int j => if mulOk i j = true then some (.int (i * j), st) else none
  | .str a, .int j => if 0 ≤ j ∧ j ≤ 1000 ∧ a.length ≤ 1000 then some (.str (Txt.mul a j), st) else none
  | .ref a, .int j => match st[a]? with
    | some (.lst xs) => if 0 ≤ j ∧ j ≤ 1000 ∧ xs.length ≤ 1000 then some (.ref st.length, st ++ [.lst (List.replicate j.toNat xs).flatten]) else none
    | _ => none
  | _, _ => none
def fdivV (x y : PV) (st : Store) : O PV := match x, y with
  | .int i, .int j => if 0 < j ∧ j.natAbs.log2 < 9000 then some (.int (i / j), st) else none
  | _, _ => none
def modV (x y : PV) (st : Store) : O PV := match x, y with
  | .int i, .int j => if 0 < j then some (.int (i % j), st) else none
  | _, _ => none
def powV (x y : PV) (st : Store) : O PV := match x, y with
  | .int i, .int j => if 0 ≤ j ∧ j ≤ 1000000 ∧ i.natAbs < 2 ^ 64 then some (.int (i ^ j.toNat), st) else none
  | _, _ => none
def negV (x : PV) (st : Store) : O PV := match x with
  | .int i => some (.int (-i), st)
  | _ => none
def cmpV (f : Int → Int → Bool) (x y : PV) (st : Store) : O PV := match x, y with
  | .int i, .int j => some (.bl (f i j), st)
  | _, _ => none
abbrev ltV := cmpV fun i j => decide (i < j)
abbrev leV := cmpV fun i j => decide (i ≤ j)
abbrev gtV := cmpV fun i j => decide (j < i)
abbrev geV := cmpV fun i j => decide (j ≤ i)
def isNonV (x y : PV) (st : Store) : O PV := match y with
  | .non => some (.bl (match x with | .non => true | _ => false), st)
  | _ => none
def notNonV (x y : PV) (st : Store) : O PV := match y with
  | .non => some (.bl (match x with | .non => false | _ => true), st)
  | _ => none
section
variable {X : Cx} {ca : String → Addr}
/-- two roads joined -/
theorem OpF.or {f : Value → Value → Sem Value} {r r' : R2} {g : PV → PV → Store → O PV} (h : OpR X f r) (h' : OpR X f r')
    (q : ∀ H m st x y x' y' Q, SR X.K ca H m st → VR X.K ca H m x x' → VR X.K ca H m y y' → Post0 X.K ca (VR X.K ca) m H Q (g x y st) → r x' y' H Q ∨ r' x' y' H Q) : OpF X ca f g := ⟨_, OpR.or h h', q⟩
theorem of_ints {f : Value → Value → Sem Value} {C : Int → Int → Prop} {k : Int → Int → V} (h : OpR X f (rI C k)) {g : PV → PV → Store → O PV} {k' : Int → Int → PV} (hk : ∀ H m i j, VR X.K ca H m (k' i j) (k i j))
    (hg : ∀ x y st v, g x y st = some v → ∃ i j, x = .int i ∧ y = .int j ∧ C i j ∧ v = (k' i j, st)) : OpF X ca f g := by
  refine ⟨_, h, fun H m st x y x' y' Q s rx ry p => ?_⟩
  cases e : g x y st with
  | none => rw [e] at p; exact p.elim
  | some v =>
    obtain ⟨i, j, rfl, rfl, c, rfl⟩ := hg x y st v e
    rw [e] at p
    cases rx
    cases ry
    exact ⟨i, j, rfl, rfl, c, p.val s (hk H m i j)⟩
theorem rI0_of {f : Value → Value → Sem Value} {k : Int → Int → V} (h : OpR X f (rI0 k)) : OpR X f (rI (fun _ _ => True) k) := fun pins s σ H x y v u Q I rx ry ⟨i, j, a, b, _, q⟩ => h pins s σ H x y v u Q I rx ry ⟨i, j, a, b, q⟩
theorem of_sub : OpF X ca (binaryOp .Sub) subV := of_ints (rI0_of op_sub) (k' := fun i j => .int (i - j)) (fun _ _ _ _ => .int _) fun x y st v e => by
  cases x <;> cases y <;> simp only [subV, Option.some.injEq, reduceCtorEq] at e
  exact ⟨_, _, rfl, rfl, trivial, e.symm⟩
theorem of_fdiv : OpF X ca (binaryOp .FloorDiv) fdivV := of_ints op_fdivW (k' := fun i j => .int (i / j)) (fun _ _ _ _ => .int _) fun x y st v e => by
  cases x <;> cases y <;> simp only [fdivV, Option.some.injEq, reduceCtorEq] at e
  split at e
  · rename_i h
    exact ⟨_, _, rfl, rfl, h, (Option.some.inj e).symm⟩
  · cases e
theorem of_mod : OpF X ca (binaryOp .Mod) modV := of_ints op_mod (k' := fun i j => .int (i % j)) (fun _ _ _ _ => .int _) fun x y st v e => by
  cases x <;> cases y <;> simp only [modV, Option.some.injEq, reduceCtorEq] at e
  split at e
  · rename_i h
    exact ⟨_, _, rfl, rfl, h, (Option.some.inj e).symm⟩
  · cases e
theorem of_pow : OpF X ca (binaryOp .Pow) powV := of_ints op_pow (k' := fun i j => .int (i ^ j.toNat)) (fun _ _ _ _ => .int _) fun x y st v e => by
  cases x <;> cases y <;> simp only [powV, Option.some.injEq, reduceCtorEq] at e
  split at e
  · rename_i h
    exact ⟨_, _, rfl, rfl, h, (Option.some.inj e).symm⟩
  · cases e
theorem of_neg : UnF X ca (unaryOp .USub) negV := by
  refine ⟨_, un_neg, fun H m st x x' Q s rx p => ?_⟩
  cases rx with
  | int i => exact ⟨i, rfl, p.val s (.int _)⟩
  | _ => exact p.elim
theorem of_cmp {f : Value → Value → Sem Value} {k : Int → Int → Bool} (h : OpR X f (rI0 fun i j => .bl (k i j))) : OpF X ca f (cmpV k) := of_ints (rI0_of h) (k' := fun i j => .bl (k i j)) (fun _ _ _ _ => .bl _) fun x y st v e => by
  cases x <;> cases y <;> simp only [cmpV, Option.some.injEq, reduceCtorEq] at e
  exact ⟨_, _, rfl, rfl, trivial, e.symm⟩
theorem of_lt : OpF X ca (compareOp .Lt) ltV := of_cmp op_lt
theorem of_le : OpF X ca (compareOp .LtE) leV := of_cmp op_le
theorem of_gt : OpF X ca (compareOp .Gt) gtV := of_cmp op_gt
theorem of_ge : OpF X ca (compareOp .GtE) geV := of_cmp op_ge
theorem of_isN : OpF X ca (compareOp .Is) isNonV := by
  refine ⟨_, op_isN, fun H m st x y x' y' Q s rx ry p => ?_⟩
  cases ry with
  | non =>
    refine ⟨rfl, ?_⟩
    cases rx <;> exact p.val s (.bl _)
  | _ => exact p.elim
theorem of_notN : OpF X ca (compareOp .IsNot) notNonV := by
  refine ⟨_, op_notN, fun H m st x y x' y' Q s rx ry p => ?_⟩
  cases ry with
  | non =>
    refine ⟨rfl, ?_⟩
    cases rx <;> exact p.val s (.bl _)
  | _ => exact p.elim
theorem of_add : OpF X ca (binaryOp .Add) addV := by
  refine ⟨_, OpR.or op_add (OpR.or op_add_str (OpR.or op_catA op_cat)), fun H m st x y x' y' Q s rx ry p => ?_⟩
  cases rx with
  | int i => cases ry with
    | int j => exact .inl ⟨i, j, rfl, rfl, p.val s (.int _)⟩
    | _ => exact p.elim
  | str a => cases ry with
    | str b =>
      simp only [addV] at p
      split at p
      · rename_i hz
        exact .inr (.inl ⟨a, b, rfl, rfl, hz, p.val s (.str _)⟩)
      · exact p.elim
    | _ => exact p.elim
  | tup ha ra => cases ry with
    | tup hb rb =>
      rename_i xs a vs ys b ws
      simp only [addV] at p
      split at p
      · rename_i hz
        refine .inr (.inr (.inl ⟨a, b, vs, ws, rfl, rfl, ha, hb, by rw [← ra.length, ← rb.length]; exact hz, fun e => ?_, fun e e2 => ?_, fun _ _ q hq => ?_⟩))
        · subst e
          cases ra
          exact p.val s (.tup hb rb)
        · subst e2
          cases rb
          rw [List.append_nil] at p
          exact p.val s (.tup ha ra)
        · exact p.newT s (ra.append rb) hq
      · exact p.elim
    | _ => exact p.elim
  | ref ha => cases ry with
    | ref hb =>
      simp only [addV] at p
      split at p
      · rename_i xs ys h1 h2
        obtain ⟨vs, e1, r1⟩ := getL s h1 ha
        obtain ⟨ws, e2, r2⟩ := getL s h2 hb
        split at p
        · rename_i hz
          exact .inr (.inr (.inr ⟨_, _, vs, ws, rfl, rfl, e1, e2, by rw [← r1.length, ← r2.length]; exact hz, fun q hq => p.newL s (r1.append r2) hq⟩))
        · exact p.elim
      · exact p.elim
    | _ => exact p.elim
  | _ => exact p.elim
theorem of_iadd : OpF X ca (inplaceOp .Add) iaddV := by
  refine ⟨_, OpR.or iop_add iop_add_str, fun H m st x y x' y' Q s rx ry p => ?_⟩
  cases rx with
  | int i => cases ry with
    | int j => exact .inl ⟨i, j, rfl, rfl, p.val s (.int _)⟩
    | _ => exact p.elim
  | str a => cases ry with
    | str b =>
      simp only [iaddV] at p
      split at p
      · rename_i hz
        exact .inr ⟨a, b, rfl, rfl, hz, p.val s (.str _)⟩
      · exact p.elim
    | _ => exact p.elim
  | _ => exact p.elim
theorem foldl_len (x : Array Nat) : ∀ (n : Nat) (acc : Array Nat), ((List.replicate n x).foldl (· ++ ·) acc).size = acc.size + n * x.size
  | 0, acc => by simp
  | n + 1, acc => by
    rw [List.replicate_succ, List.foldl_cons, foldl_len x n, Array.size_append, Nat.succ_mul]
    omega
theorem op_mul_str : OpR X (binaryOp .Mult) (fun x y H Q => ∃ a j, x = .str a ∧ y = .int j ∧ 0 ≤ j ∧ j ≤ 1000 ∧ a.length ≤ 1000 ∧ Q (.str (Txt.mul a j)) H) := by
  intro pins s σ H x y v u Q I rx ry h
  obtain ⟨a, j, rfl, rfl, h0, h1, h2, q⟩ := h
  obtain ⟨t, rfl⟩ := rx
  obtain ⟨t', rfl⟩ := ry
  refine SB.mul ⟨?_, fun hn _ => ?_, fun hn _ => ?_⟩ fun t1 k => ⟨.str _, H, I.tok k, ⟨_, rfl⟩, q⟩
  · simp only [Bool.or_eq_false_iff, decide_eq_false_iff_not]
    omega
  · have hj : 1 ≤ j := by omega
    have h3 : (a.length : Int) * j ≤ 1000 * 1000 := Int.mul_le_mul (by omega) h1 h0 (by omega)
    have h4 : (a.length : Int) ≤ (2 ^ 63 - 1) / j := Int.le_ediv_of_mul_le (by omega) (by omega)
    omega
  · unfold Builtin.Str.tooLong
    have h3 : a.length * j.toNat ≤ 1000 * 1000 := Nat.mul_le_mul h2 (by omega)
    rw [decide_eq_false_iff_not, sizeLine_eq]
    omega
theorem VRs.rep {K : PySem.W.Frag} {H : Hp} {m : List Addr} {xs : List PV} {vs : List V} (r : VRs K ca H m xs vs) : ∀ n : Nat, VRs K ca H m (List.replicate n xs).flatten (List.replicate n vs).flatten
  | 0 => .nil
  | n + 1 => by
    rw [List.replicate_succ, List.replicate_succ, List.flatten_cons, List.flatten_cons]
    exact r.append (VRs.rep r n)
theorem mulOk_cx {i j : Int} (h : mulOk i j = true) : CMulX i j := by
  have h' : i.natAbs.log2 + j.natAbs.log2 < 100000000 := of_decide_eq_true h
  have b : ∀ z : Int, Builtin.Int.intBits z ≤ z.natAbs.log2 + 1 := fun z => by
    unfold Builtin.Int.intBits
    split <;> omega
  have := b i
  have := b j
  unfold CMulX
  omega
theorem of_mul : OpF X ca (binaryOp .Mult) mulV := by
  refine ⟨_, OpR.or op_mulX (OpR.or op_mul_str op_rep), fun H m st x y x' y' Q s rx ry p => ?_⟩
  cases rx with
  | int i => cases ry with
    | int j =>
      simp only [mulV] at p
      split at p
      · rename_i hz
        exact .inl ⟨i, j, rfl, rfl, mulOk_cx hz, p.val s (.int _)⟩
      · exact p.elim
    | _ => exact p.elim
  | str a => cases ry with
    | int j =>
      simp only [mulV] at p
      split at p
      · rename_i hz
        exact .inr (.inl ⟨a, j, rfl, rfl, hz.1, hz.2.1, hz.2.2, p.val s (.str _)⟩)
      · exact p.elim
    | _ => exact p.elim
  | ref ha => cases ry with
    | int j =>
      simp only [mulV] at p
      split at p
      · rename_i xs h1
        obtain ⟨vs, e1, r1⟩ := getL s h1 ha
        split at p
        · rename_i hz
          have hl := r1.length
          have h3 : vs.length * j.toNat ≤ 1000 * 1000 := Nat.mul_le_mul (by omega) (by omega)
          exact .inr (.inr ⟨_, j, vs, rfl, rfl, e1, by omega, by omega, by rw [sizeLine_eq]; omega, fun q hq => p.newL s (r1.rep _) hq⟩)
        · exact p.elim
      · exact p.elim
    | _ => exact p.elim
  | _ => exact p.elim
end

/-! ## equality -/
def toDs (f : PV → Option PyData) : List PV → Option (List PyData)
  | [] => some []
  | x :: xs => match f x, toDs f xs with
    | some d, some ds => some (d :: ds)
    | _, _ => none
def toD : Nat → Store → PV → Option PyData
  | 0, _, _ => none
  | k + 1, st, v => match v with
    | .non => some .none
    | .bl b => some (.bool b)
    | .int i => some (.int i)
    | .str x => if PyData.strOk x = true then some (.str x) else none
    | .tup xs => (toDs (toD k st) xs).map PyData.tuple
    | .frz xs => (toDs (toD k st) xs).map PyData.list
    | .ref n => match st[n]? with
      | some (.lst xs) => (toDs (toD k st) xs).map PyData.list
      | _ => none
    | _ => none
/-- equality of two things of no parts -/
def scEq (x y : PV) : Option Bool := match x, y with
  | .int i, .int j => some (decide (i = j))
  | .str a, .str b => some (decide (a = b))
  | .bl a, .bl b => some (decide (a = b))
  | .int _, .str _ => some false
  | .str _, .int _ => some false
  | .non, .int _ => some false
  | .int _, .non => some false
  | .non, .str _ => some false
  | .str _, .non => some false
  | .non, .bl _ => some false
  | .bl _, .non => some false
  | .bl _, .str _ => some false
  | .str _, .bl _ => some false
  | _, _ => none
def eqB (x y : PV) (st : Store) : Option Bool := match scEq x y with
  | some b => some b
  | none => match toD 64 st x, toD 64 st y with
    | some d, some e => some (PyData.eqv d e)
    | _, _ => none
def eqV (x y : PV) (st : Store) : O PV := (eqB x y st).map fun b => (.bl b, st)
def neV (x y : PV) (st : Store) : O PV := (eqB x y st).map fun b => (.bl (!b), st)
section
variable {K : PySem.W.Frag} {ca : String → Addr} {m m' : List Addr} {H H' : Hp} {st : Store}
theorem toDs_ok {f : PV → Option PyData} {k : Nat} (ih : ∀ {x v d}, VR K ca H m x v → f x = some d → Dp K H v d ∧ d.canLay0 = true ∧ d.depth ≤ k) :
    ∀ {xs : List PV} {vs : List V} {ds : List PyData}, VRs K ca H m xs vs → toDs f xs = some ds → DpAll K H vs ds ∧ PyData.canLayAll0 ds = true ∧ PyData.depthAll ds ≤ k
  | _, _, ds, .nil, e => by
    simp only [toDs, Option.some.injEq] at e
    subst e
    exact ⟨.nil, rfl, by simp [PyData.depthAll]⟩
  | _, _, ds, .cons h r, e => by
    simp only [toDs] at e
    split at e
    · rename_i d ds' e1 e2
      cases e
      obtain ⟨a1, a2, a3⟩ := ih h e1
      obtain ⟨b1, b2, b3⟩ := toDs_ok ih r e2
      refine ⟨.cons a1 b1, by simp only [PyData.canLayAll0, a2, b2]; rfl, ?_⟩
      simp only [PyData.depthAll]
      omega
    · cases e
theorem toD_ok (s : SR K ca H m st) : ∀ {k : Nat} {x : PV} {v : V} {d : PyData}, VR K ca H m x v → toD k st x = some d → Dp K H v d ∧ d.canLay0 = true ∧ d.depth ≤ k := by
  intro k
  induction k with
  | zero => intro x v d _ e; cases e
  | succ k ih =>
    intro x v d h e
    cases h with
    | non => simp only [toD, Option.some.injEq] at e; subst e; exact ⟨.non, rfl, by simp [PyData.depth]⟩
    | bl b => simp only [toD, Option.some.injEq] at e; subst e; exact ⟨.bl b, rfl, by simp [PyData.depth]⟩
    | int i => simp only [toD, Option.some.injEq] at e; subst e; exact ⟨.int i, rfl, by simp [PyData.depth]⟩
    | str x =>
      simp only [toD] at e
      split at e
      · rename_i hx
        cases e
        exact ⟨.str x, hx, by simp [PyData.depth]⟩
      · cases e
    | ty n => simp only [toD, reduceCtorEq] at e
    | cls n => simp only [toD, reduceCtorEq] at e
    | tup hs r =>
      simp only [toD] at e
      obtain ⟨ds, e1, rfl⟩ := Option.map_eq_some_iff.mp e
      obtain ⟨a, b, c⟩ := toDs_ok ih r e1
      refine ⟨.tup hs a, by simpa only [PyData.canLay0] using b, ?_⟩
      simp only [PyData.depth]
      omega
    | frz hs r =>
      simp only [toD] at e
      obtain ⟨ds, e1, rfl⟩ := Option.map_eq_some_iff.mp e
      obtain ⟨a, b, c⟩ := toDs_ok ih r e1
      refine ⟨.lst hs.sq a, by simpa only [PyData.canLay0] using b, ?_⟩
      simp only [PyData.depth]
      omega
    | ref hn =>
      simp only [toD] at e
      split at e
      · rename_i xs hx
        obtain ⟨vs, e2, r⟩ := getL s hx hn
        obtain ⟨ds, e1, rfl⟩ := Option.map_eq_some_iff.mp e
        obtain ⟨a, b, c⟩ := toDs_ok ih r e1
        refine ⟨.lst (SqL.of e2) a, by simpa only [PyData.canLay0] using b, ?_⟩
        simp only [PyData.depth]
        omega
      · cases e
theorem scEq_ok {x y : PV} {x' y' : V} {b : Bool} (rx : VR K ca H m x x') (ry : VR K ca H m y y') (e : scEq x y = some b) : scal x' y' = true ∧ decide (x' = y') = b := by
  cases rx <;> cases ry <;> simp only [scEq, Option.some.injEq, reduceCtorEq] at e <;> subst e <;> refine ⟨rfl, ?_⟩ <;> simp
theorem eqB_ok (s : SR K ca H m st) {x y : PV} {x' y' : V} {b : Bool} (rx : VR K ca H m x x') (ry : VR K ca H m y y') (e : eqB x y st = some b) :
    (scal x' y' = true ∧ decide (x' = y') = b) ∨ ∃ d d', Dp K H x' d ∧ Dp K H y' d' ∧ SeqAt.shaped d = true ∧ SeqAt.shaped d' = true ∧ PyData.eqv d d' = b := by
  unfold eqB at e
  split at e
  · rename_i b' e1
    cases e
    exact .inl (scEq_ok rx ry e1)
  · split at e
    · rename_i d d' e1 e2
      cases e
      obtain ⟨a1, a2, a3⟩ := toD_ok s rx e1
      obtain ⟨b1, b2, b3⟩ := toD_ok s ry e2
      refine .inr ⟨d, d', a1, b1, ?_, ?_, rfl⟩
      · unfold SeqAt.shaped; rw [a2, decide_eq_true a3]; rfl
      · unfold SeqAt.shaped; rw [b2, decide_eq_true b3]; rfl
    · cases e
end
section
variable {X : Cx} {ca : String → Addr}
theorem of_eq (hu : X.A.units + 64 < cLine) : OpF X ca (compareOp .Eq) eqV := by
  refine ⟨_, OpR.or op_eq (op_eqD hu), fun H m st x y x' y' Q s rx ry p => ?_⟩
  unfold eqV at p
  cases e : eqB x y st with
  | none => rw [e] at p; exact p.elim
  | some b =>
    rw [e] at p
    have q := p.val s (.bl b)
    rcases eqB_ok s rx ry e with ⟨h1, h2⟩ | ⟨d, d', h1, h2, h3, h4, h5⟩
    · exact .inl ⟨h1, by rw [h2]; exact q⟩
    · exact .inr ⟨d, d', h1, h2, h3, h4, by rw [h5]; exact q⟩
theorem of_ne (hu : X.A.units + 64 < cLine) : OpF X ca (compareOp .NotEq) neV := by
  refine ⟨_, OpR.or op_ne (op_neD hu), fun H m st x y x' y' Q s rx ry p => ?_⟩
  unfold neV at p
  cases e : eqB x y st with
  | none => rw [e] at p; exact p.elim
  | some b =>
    rw [e] at p
    have q := p.val s (.bl (!b))
    rcases eqB_ok s rx ry e with ⟨h1, h2⟩ | ⟨d, d', h1, h2, h3, h4, h5⟩
    · exact .inl ⟨h1, by rw [h2]; exact q⟩
    · exact .inr ⟨d, d', h1, h2, h3, h4, by rw [h5]; exact q⟩
end
end
end FL
end
section
set_option linter.all false
set_option maxRecDepth 100000
namespace FL
open PySem PySem.Spec PyProof.Rows L2
noncomputable section
/-! ## built-ins -/
def lenV (xs : List PV) (st : Store) : O PV := match xs with
  | [.str x] => if x.length ≤ sizeLine then some (.int x.length, st) else none
  | [.tup ys] => some (.int ys.length, st)
  | [.frz ys] => some (.int ys.length, st)
  | [.ref n] => match st[n]? with
    | some (.lst ys) => some (.int ys.length, st)
    | some (.dK kvs) => some (.int kvs.length, st)
    | _ => none
  | _ => none
def absV' (xs : List PV) (st : Store) : O PV := match xs with
  | [.int i] => some (.int (if i < 0 then -i else i), st)
  | _ => none
/-- the ints that stand there -/
def intsOf : List PV → Option (List Int)
  | [] => some []
  | .int i :: xs => (intsOf xs).map fun r => i :: r
  | _ :: _ => none
def strsOf : List PV → Option (List Str)
  | [] => some []
  | .str i :: xs => (strsOf xs).map fun r => i :: r
  | _ :: _ => none
def blsOf : List PV → Option (List Bool)
  | [] => some []
  | .bl i :: xs => (blsOf xs).map fun r => i :: r
  | _ :: _ => none
/-- a list's items -/
def lstAt (st : Store) : PV → Option (List PV)
  | .frz xs => some xs
  | .ref n => match st[n]? with
    | some (.lst xs) => some xs
    | _ => none
  | _ => none
/-- a list's or a tuple's items -/
def seqAt (st : Store) : PV → Option (List PV)
  | .tup xs => some xs
  | v => lstAt st v
def maxL (ns : List Int) : Int := ns.foldl max (ns.headD 0)
def minL (ns : List Int) : Int := ns.foldl min (ns.headD 0)
def maxV (xs : List PV) (st : Store) : O PV := match xs with
  | [.int i, .int j] => some (.int (max i j), st)
  | [v] => match (lstAt st v).bind intsOf with
    | some ns => if ns = [] then none else some (.int (maxL ns), st)
    | none => none
  | _ => none
def minV (xs : List PV) (st : Store) : O PV := match xs with
  | [.int i, .int j] => some (.int (min i j), st)
  | [v] => match (lstAt st v).bind intsOf with
    | some ns => if ns = [] then none else some (.int (minL ns), st)
    | none => none
  | _ => none
def sumV (xs : List PV) (st : Store) : O PV := match xs with
  | [v] => ((lstAt st v).bind intsOf).map fun ns => (.int ns.sum, st)
  | _ => none
def anyV (xs : List PV) (st : Store) : O PV := match xs with
  | [v] => ((lstAt st v).bind blsOf).map fun ns => (.bl (ns.any id), st)
  | _ => none
def allV (xs : List PV) (st : Store) : O PV := match xs with
  | [v] => ((lstAt st v).bind blsOf).map fun ns => (.bl (ns.all id), st)
  | _ => none
def tupleV (xs : List PV) (st : Store) : O PV := match xs with
  | [v] => (seqAt st v).map fun ys => (.tup ys, st)
  | _ => none
def listV (xs : List PV) (st : Store) : O PV := match xs with
  | [v] => (seqAt st v).map fun ys => (.ref st.length, st ++ [.lst ys])
  | _ => none
def strV (xs : List PV) (st : Store) : O PV := match xs with
  | [.int i] => if i.natAbs.log2 < 1920 then some (.str (toString i), st) else none
  | _ => none
def intV (xs : List PV) (st : Store) : O PV := match xs with
  | [.str a] => match PySem.intText? a with
    | some n => if a.length ≤ 640 then some (.int n, st) else none
    | none => none
  | [.int i] => some (.int i, st)
  | [.bl b] => some (.int (if b then 1 else 0), st)
  | _ => none
def ordV (xs : List PV) (st : Store) : O PV := match xs with
  | [.str x] => if x.length = 1 then some (.int (x.cps.getD 0 0 : Nat), st) else none
  | _ => none
/-- a value's built-in type -/
def typV (st : Store) : PV → Option String
  | .non => some "NoneType"
  | .bl _ => some "bool"
  | .int _ => some "int"
  | .str _ => some "str"
  | .tup _ => some "tuple"
  | .frz _ => some "list"
  | .ref n => match st[n]? with
    | some (.lst _) => some "list"
    | some (.dK _) => some "dict"
    | _ => none
  | _ => none
def isiV (xs : List PV) (st : Store) : O PV := match xs with
  | [v, .ty n] => match typV st v with
    | some t => (kitB t n).map fun b => (.bl b, st)
    | none => none
  | _ => none
def idxV (x y : PV) (st : Store) : O PV := match y with
  | .int i => match x with
    | .str z => if z.length ≤ sizeLine then (atI z.cps.toList i).map fun c => (.str ⟨#[c]⟩, st) else none
    | v => match seqAt st v with
      | some xs => (atI xs i).map fun v => (v, st)
      | none => none
  | _ => none
def cutP (xs : List PV) (lo hi : Option Int) : List PV := (xs.drop (HT.sIx xs.length 0 lo)).take (HT.sIx xs.length xs.length hi - HT.sIx xs.length 0 lo)
def slV (x : PV) (lo hi : Option Int) (st : Store) : O PV := match x with
  | .str z => if z.length ≤ sizeLine then some (.str (cutS z lo hi), st) else none
  | .tup xs => some (.tup (cutP xs lo hi), st)
  | v => (lstAt st v).map fun xs => (.ref st.length, st ++ [.lst (cutP xs lo hi)])
def flatP : PV → Bool
  | .non => true
  | .bl _ => true
  | .int _ => true
  | .str _ => true
  | _ => false
def eqP : PV → PV → Bool
  | .non, .non => true
  | .bl a, .bl b => a == b
  | .bl a, .int b => (if a then 1 else 0) == b
  | .int a, .bl b => a == (if b then 1 else 0)
  | .int a, .int b => a == b
  | .str a, .str b => a == b
  | _, _ => false
/-- x in y -/
def inB (x y : PV) (st : Store) : Option Bool := match y with
  | .str z => match x with
    | .str a => if a.cps.size = 1 then some (decide (a.cps.getD 0 0 ∈ z.cps.toList)) else some (!(Builtin.Str.occurrences z a 0 z.length 1).isEmpty)
    | _ => none
  | v => match seqAt st v with
    | some ys => if flatP x = true ∧ ys.all flatP = true then some (ys.any fun y => eqP y x) else match lstAt st v with
      | some zs => match toD 64 st x, toDs (toD 63 st) zs with
        | some d, some ds => some (ds.any fun z => PyData.eqv z d)
        | _, _ => none
      | none => none
    | none => none
def inV (x y : PV) (st : Store) : O PV := (inB x y st).map fun b => (.bl b, st)
def ninV (x y : PV) (st : Store) : O PV := (inB x y st).map fun b => (.bl (!b), st)

section
variable {K : PySem.W.Frag} {ca : String → Addr} {m m' : List Addr} {H H' : Hp} {st : Store}
theorem ints_ok : ∀ {xs : List PV} {vs : List V} {ns : List Int}, VRs K ca H m xs vs → intsOf xs = some ns → vs = ns.map V.int
  | _, _, ns, .nil, e => by simp only [intsOf, Option.some.injEq] at e; subst e; rfl
  | _, _, ns, .cons h r, e => by
    cases h with
    | int i =>
      simp only [intsOf] at e
      obtain ⟨r', e1, rfl⟩ := Option.map_eq_some_iff.mp e
      rw [ints_ok r e1, List.map_cons]
    | _ => cases e
theorem strs_ok : ∀ {xs : List PV} {vs : List V} {ns : List Str}, VRs K ca H m xs vs → strsOf xs = some ns → vs = ns.map V.str
  | _, _, ns, .nil, e => by simp only [strsOf, Option.some.injEq] at e; subst e; rfl
  | _, _, ns, .cons h r, e => by
    cases h with
    | str i =>
      simp only [strsOf] at e
      obtain ⟨r', e1, rfl⟩ := Option.map_eq_some_iff.mp e
      rw [strs_ok r e1, List.map_cons]
    | _ => cases e
theorem bls_ok : ∀ {xs : List PV} {vs : List V} {ns : List Bool}, VRs K ca H m xs vs → blsOf xs = some ns → vs = ns.map V.bl
  | _, _, ns, .nil, e => by simp only [blsOf, Option.some.injEq] at e; subst e; rfl
  | _, _, ns, .cons h r, e => by
    cases h with
    | bl i =>
      simp only [blsOf] at e
      obtain ⟨r', e1, rfl⟩ := Option.map_eq_some_iff.mp e
      rw [bls_ok r e1, List.map_cons]
    | _ => cases e
theorem lst_ok (s : SR K ca H m st) {v : PV} {w : V} {xs : List PV} (r : VR K ca H m v w) (e : lstAt st v = some xs) : ∃ a vs, w = .ref a ∧ SqL K H a vs ∧ VRs K ca H m xs vs := by
  cases r with
  | frz h r => simp only [lstAt, Option.some.injEq] at e; subst e; exact ⟨_, _, rfl, h.sq, r⟩
  | ref hn =>
    simp only [lstAt] at e
    split at e
    · rename_i ys hx
      cases e
      obtain ⟨vs, e1, r1⟩ := getL s hx hn
      exact ⟨_, _, rfl, SqL.of e1, r1⟩
    · cases e
  | _ => cases e
theorem seq_ok (s : SR K ca H m st) {v : PV} {w : V} {xs : List PV} (r : VR K ca H m v w) (e : seqAt st v = some xs) : ∃ a vs, w = .ref a ∧ (SqL K H a vs ∨ SqT K H a vs) ∧ VRs K ca H m xs vs := by
  cases r with
  | tup h r => simp only [seqAt, Option.some.injEq] at e; subst e; exact ⟨_, _, rfl, .inr h, r⟩
  | frz h r => simp only [seqAt, lstAt, Option.some.injEq] at e; subst e; exact ⟨_, _, rfl, .inl h.sq, r⟩
  | ref hn =>
    obtain ⟨a, vs, e1, e2, e3⟩ := lst_ok s (.ref hn) (show lstAt st _ = some xs from e)
    exact ⟨a, vs, e1, .inl e2, e3⟩
  | _ => cases e
theorem atI_ok {xs : List PV} {vs : List V} {i : Int} {x : PV} (r : VRs K ca H m xs vs) (e : atI xs i = some x) : ∃ v, atI vs i = some v ∧ VR K ca H m x v := by
  unfold atI at e ⊢
  rw [← r.length]
  cases q : ixN xs.length i with
  | none => rw [q] at e; cases e
  | some j =>
    rw [q] at e
    exact r.get e
theorem cut_ok {xs : List PV} {vs : List V} (r : VRs K ca H m xs vs) (lo hi : Option Int) : VRs K ca H m (cutP xs lo hi) (cutV vs lo hi) := by
  unfold cutP cutV
  rw [← r.length]
  exact (r.drop _).take _
theorem maxL_ok : ∀ (ns : List Int) (a : Int), a ≤ ns.foldl max a ∧ (∀ y ∈ ns, y ≤ ns.foldl max a) ∧ (ns.foldl max a = a ∨ ns.foldl max a ∈ ns)
  | [], a => ⟨Int.le_refl _, fun _ h => (nomatch h), .inl rfl⟩
  | n :: r, a => by
    obtain ⟨h1, h2, h3⟩ := maxL_ok r (max a n)
    rw [List.foldl_cons]
    refine ⟨by omega, fun y hy => ?_, ?_⟩
    · rcases List.mem_cons.mp hy with rfl | hy
      · omega
      · exact h2 y hy
    · rcases h3 with h3 | h3
      · by_cases q : a ≤ n
        · exact .inr (by rw [h3]; rw [show max a n = n by omega]; exact List.mem_cons_self)
        · exact .inl (by rw [h3]; omega)
      · exact .inr (List.mem_cons_of_mem _ h3)
theorem minL_ok : ∀ (ns : List Int) (a : Int), ns.foldl min a ≤ a ∧ (∀ y ∈ ns, ns.foldl min a ≤ y) ∧ (ns.foldl min a = a ∨ ns.foldl min a ∈ ns)
  | [], a => ⟨Int.le_refl _, fun _ h => (nomatch h), .inl rfl⟩
  | n :: r, a => by
    obtain ⟨h1, h2, h3⟩ := minL_ok r (min a n)
    rw [List.foldl_cons]
    refine ⟨by omega, fun y hy => ?_, ?_⟩
    · rcases List.mem_cons.mp hy with rfl | hy
      · omega
      · exact h2 y hy
    · rcases h3 with h3 | h3
      · by_cases q : n ≤ a
        · exact .inr (by rw [h3]; rw [show min a n = n by omega]; exact List.mem_cons_self)
        · exact .inl (by rw [h3]; omega)
      · exact .inr (List.mem_cons_of_mem _ h3)
theorem flat_ok {x : PV} {v : V} (r : VR K ca H m x v) (h : flatP x = true) : flatV v = true := by
  cases r <;> first | rfl | cases h
theorem flats_ok : ∀ {xs : List PV} {vs : List V}, VRs K ca H m xs vs → xs.all flatP = true → vs.all flatV = true
  | _, _, .nil, _ => rfl
  | _, _, .cons h r, e => by
    simp only [List.all_cons, Bool.and_eq_true] at e ⊢
    exact ⟨flat_ok h e.1, flats_ok r e.2⟩
theorem eqP_ok {x y : PV} {v w : V} (rx : VR K ca H m x v) (ry : VR K ca H m y w) : L2.eqV v w = eqP x y := by
  cases rx <;> cases ry <;> rfl
theorem anyP_ok {x : PV} {v : V} (rx : VR K ca H m x v) : ∀ {xs : List PV} {vs : List V}, VRs K ca H m xs vs → L2.inV v vs = xs.any fun y => eqP y x
  | _, _, .nil => rfl
  | _, _, .cons h r => by
    have ih := anyP_ok rx r
    unfold L2.inV at ih ⊢
    rw [List.any_cons, List.any_cons, ih, eqP_ok h rx]
theorem typ_ok (s : SR K ca H m st) {x : PV} {v : V} {t : String} (r : VR K ca H m x v) (e : typV st x = some t) : TyX K H v (.type t) := by
  cases r with
  | non => cases e; exact .base .non
  | bl b => cases e; exact .base (.bl b)
  | int i => cases e; exact .base (.int i)
  | str x => cases e; exact .base (.str x)
  | tup h r =>
    cases e
    rcases h with (h | ⟨o, h⟩) | ⟨o, its, n, h1, h2, _⟩
    · exact .base (.tup h)
    · exact .fTuple h
    · exact .kTuple h1 h2
  | frz h r =>
    cases e
    rcases h with ⟨o, h⟩ | ⟨o, its, n, h1, h2, _⟩
    · exact .base (.frz h)
    · exact .kList h1 h2
  | ref hn =>
    simp only [typV] at e
    split at e
    · rename_i ys hx
      cases e
      obtain ⟨vs, e1, r1⟩ := s.at hx hn
      exact .base (.lst e1)
    · rename_i ys hx
      cases e
      obtain ⟨vs, e1, r1⟩ := s.at hx hn
      exact .base (.dK e1)
    · cases e
  | _ => cases e
end
section
variable {X : Cx} {ca : String → Addr}
theorem CallR.or {f : Value} {r r' : List V → Hp → VK → Prop} (h : CallR X f r) (h' : CallR X f r') : CallR X f (fun xs H Q => r xs H Q ∨ r' xs H Q) := by
  intro pins s σ H xs us Q I r q
  rcases q with q | q
  · exact h pins s σ H xs us Q I r q
  · exact h' pins s σ H xs us Q I r q
theorem vrs1 {K : PySem.W.Frag} {H : Hp} {m : List Addr} {x : PV} {vs : List V} (r : VRs K ca H m [x] vs) : ∃ v, vs = [v] ∧ VR K ca H m x v := by
  cases r with
  | cons h r => cases r; exact ⟨_, rfl, h⟩
theorem vrs2 {K : PySem.W.Frag} {H : Hp} {m : List Addr} {x y : PV} {vs : List V} (r : VRs K ca H m [x, y] vs) : ∃ v w, vs = [v, w] ∧ VR K ca H m x v ∧ VR K ca H m y w := by
  cases r with
  | cons h r => cases r with
    | cons h2 r => cases r; exact ⟨_, _, rfl, h, h2⟩
theorem cb_len : CbF X ca (.builtin "len") lenV := by
  refine ⟨_, CallR.or call_len call_lenD, fun H m st xs vs Q s r p => ?_⟩
  unfold lenV at p
  split at p
  · obtain ⟨v, rfl, r1⟩ := vrs1 r
    cases r1
    split at p
    · rename_i x hz
      exact .inl ⟨_, x.length, rfl, ⟨hz, rfl⟩, p.val s (.int _)⟩
    · exact p.elim
  · obtain ⟨v, rfl, r1⟩ := vrs1 r
    cases r1 with
    | tup h rr => exact .inl ⟨_, _, rfl, .inr ⟨_, h, rr.length⟩, p.val s (.int _)⟩
  · obtain ⟨v, rfl, r1⟩ := vrs1 r
    cases r1 with
    | frz h rr => exact .inl ⟨_, _, rfl, .inl ⟨_, h.sq, rr.length⟩, p.val s (.int _)⟩
  · obtain ⟨v, rfl, r1⟩ := vrs1 r
    cases r1 with
    | ref hn =>
      split at p
      · rename_i ys hx
        obtain ⟨vs, e1, r1⟩ := getL s hx hn
        exact .inl ⟨_, _, rfl, .inl ⟨_, SqL.of e1, r1.length⟩, p.val s (.int _)⟩
      · rename_i ys hx
        obtain ⟨vs, e1, r1⟩ := s.at hx hn
        refine .inr ⟨_, _, rfl, e1, ?_⟩
        have : ys.length = vs.length := Paired.length r1
        rw [← this]
        exact p.val s (.int _)
      · exact p.elim
  · exact p.elim
theorem cb_abs : CbF X ca (.builtin "abs") absV' := by
  refine ⟨_, call_abs, fun H m st xs vs Q s r p => ?_⟩
  unfold absV' at p
  split at p
  · obtain ⟨v, rfl, r1⟩ := vrs1 r
    cases r1
    exact ⟨_, rfl, p.val s (.int _)⟩
  · exact p.elim
theorem cb_max (hc : X.calm = true) : CbF X ca (.builtin "max") maxV := by
  refine ⟨_, CallR.or (call_max2 hc) (cr_max hc), fun H m st xs vs Q s r p => ?_⟩
  unfold maxV at p
  split at p
  · rename_i i j
    obtain ⟨v, w, rfl, r1, r2⟩ := vrs2 r
    cases r1
    cases r2
    refine .inl ⟨_, _, rfl, ?_⟩
    rw [show (if j > i then j else i) = max i j by split <;> omega]
    exact p.val s (.int _)
  · obtain ⟨v, rfl, r1⟩ := vrs1 r
    split at p
    · rename_i ns he
      obtain ⟨ys, e1, e2⟩ := Option.bind_eq_some_iff.mp he
      obtain ⟨a, vs, rfl, hq, r2⟩ := lst_ok s r1 e1
      obtain rfl := ints_ok r2 e2
      split at p
      · exact p.elim
      · rename_i hne
        refine .inr ⟨a, ns, rfl, hq, by cases ns with | nil => exact absurd rfl hne | cons _ _ => simp, fun mm hm hle => ?_⟩
        have e : mm = maxL ns := by
          cases ns with
          | nil => cases hm
          | cons n r =>
            obtain ⟨q1, q2, q3⟩ := maxL_ok (n :: r) n
            have i1 := q2 mm hm
            have i2 : maxL (n :: r) ∈ n :: r := by
              rcases q3 with q3 | q3
              · show List.foldl max n (n :: r) ∈ _
                rw [q3]; exact List.mem_cons_self
              · exact q3
            have i3 := hle _ i2
            show mm = List.foldl max n (n :: r)
            have i4 : maxL (n :: r) = List.foldl max n (n :: r) := rfl
            omega
        rw [e]
        exact p.val s (.int _)
    · exact p.elim
  · exact p.elim
theorem cb_min (hc : X.calm = true) : CbF X ca (.builtin "min") minV := by
  refine ⟨_, CallR.or (call_min2 hc) (cr_min hc), fun H m st xs vs Q s r p => ?_⟩
  unfold minV at p
  split at p
  · rename_i i j
    obtain ⟨v, w, rfl, r1, r2⟩ := vrs2 r
    cases r1
    cases r2
    refine .inl ⟨_, _, rfl, ?_⟩
    rw [show (if j < i then j else i) = min i j by split <;> omega]
    exact p.val s (.int _)
  · obtain ⟨v, rfl, r1⟩ := vrs1 r
    split at p
    · rename_i ns he
      obtain ⟨ys, e1, e2⟩ := Option.bind_eq_some_iff.mp he
      obtain ⟨a, vs, rfl, hq, r2⟩ := lst_ok s r1 e1
      obtain rfl := ints_ok r2 e2
      split at p
      · exact p.elim
      · rename_i hne
        refine .inr ⟨a, ns, rfl, hq, by cases ns with | nil => exact absurd rfl hne | cons _ _ => simp, fun mm hm hle => ?_⟩
        have e : mm = minL ns := by
          cases ns with
          | nil => cases hm
          | cons n r =>
            obtain ⟨q1, q2, q3⟩ := minL_ok (n :: r) n
            have i1 := q2 mm hm
            have i2 : minL (n :: r) ∈ n :: r := by
              rcases q3 with q3 | q3
              · show List.foldl min n (n :: r) ∈ _
                rw [q3]; exact List.mem_cons_self
              · exact q3
            have i3 := hle _ i2
            show mm = List.foldl min n (n :: r)
            have i4 : minL (n :: r) = List.foldl min n (n :: r) := rfl
            omega
        rw [e]
        exact p.val s (.int _)
    · exact p.elim
  · exact p.elim
theorem cb_sum (hc : X.calm = true) : CbF X ca (.builtin "sum") sumV := by
  refine ⟨_, cr_sum hc, fun H m st xs vs Q s r p => ?_⟩
  unfold sumV at p
  split at p
  · obtain ⟨v, rfl, r1⟩ := vrs1 r
    rename_i w
    cases he : (lstAt st w).bind intsOf with
    | none => rw [he] at p; exact p.elim
    | some ns =>
      rw [he] at p
      obtain ⟨ys, e1, e2⟩ := Option.bind_eq_some_iff.mp he
      obtain ⟨a, vs, rfl, hq, r2⟩ := lst_ok s r1 e1
      obtain rfl := ints_ok r2 e2
      exact ⟨a, ns, rfl, hq, p.val s (.int _)⟩
  · exact p.elim
theorem cb_any (hc : X.calm = true) : CbF X ca (.builtin "any") anyV := by
  refine ⟨_, cr_any hc, fun H m st xs vs Q s r p => ?_⟩
  unfold anyV at p
  split at p
  · obtain ⟨v, rfl, r1⟩ := vrs1 r
    rename_i w
    cases he : (lstAt st w).bind blsOf with
    | none => rw [he] at p; exact p.elim
    | some ns =>
      rw [he] at p
      obtain ⟨ys, e1, e2⟩ := Option.bind_eq_some_iff.mp he
      obtain ⟨a, vs, rfl, hq, r2⟩ := lst_ok s r1 e1
      obtain rfl := bls_ok r2 e2
      exact ⟨a, ns, rfl, hq, p.val s (.bl _)⟩
  · exact p.elim
theorem cb_all (hc : X.calm = true) : CbF X ca (.builtin "all") allV := by
  refine ⟨_, cr_all hc, fun H m st xs vs Q s r p => ?_⟩
  unfold allV at p
  split at p
  · obtain ⟨v, rfl, r1⟩ := vrs1 r
    rename_i w
    cases he : (lstAt st w).bind blsOf with
    | none => rw [he] at p; exact p.elim
    | some ns =>
      rw [he] at p
      obtain ⟨ys, e1, e2⟩ := Option.bind_eq_some_iff.mp he
      obtain ⟨a, vs, rfl, hq, r2⟩ := lst_ok s r1 e1
      obtain rfl := bls_ok r2 e2
      exact ⟨a, ns, rfl, hq, p.val s (.bl _)⟩
  · exact p.elim
theorem cb_tuple : CbF X ca (.type "tuple") tupleV := by
  refine ⟨_, call_tuple_of, fun H m st xs vs Q s r p => ?_⟩
  unfold tupleV at p
  split at p
  · obtain ⟨v, rfl, r1⟩ := vrs1 r
    rename_i w
    cases r1 with
    | tup h rr => exact ⟨_, _, rfl, .inr ⟨h, p.val s (.tup h rr)⟩⟩
    | frz h rr => exact ⟨_, _, rfl, .inl ⟨h.sq, fun l hl => p.newT s rr hl⟩⟩
    | ref hn =>
      simp only [seqAt, lstAt] at p
      split at p
      · rename_i ys hx
        obtain ⟨vs, e1, r1⟩ := getL s hx hn
        exact ⟨_, _, rfl, .inl ⟨SqL.of e1, fun l hl => p.newT s r1 hl⟩⟩
      · exact p.elim
    | _ => exact p.elim
  · exact p.elim
theorem cb_list : CbF X ca (.type "list") listV := by
  refine ⟨_, call_list_of, fun H m st xs vs Q s r p => ?_⟩
  unfold listV at p
  split at p
  · obtain ⟨v, rfl, r1⟩ := vrs1 r
    rename_i w
    cases he : seqAt st w with
    | none => rw [he] at p; exact p.elim
    | some ys =>
      rw [he] at p
      obtain ⟨a, vs, rfl, hq, r2⟩ := seq_ok s r1 he
      exact ⟨a, vs, rfl, hq, fun l hl => p.newL s r2 hl⟩
  · exact p.elim
theorem cb_str : CbF X ca (.type "str") strV := by
  refine ⟨_, call_str_int, fun H m st xs vs Q s r p => ?_⟩
  unfold strV at p
  split at p
  · obtain ⟨v, rfl, r1⟩ := vrs1 r
    cases r1
    split at p
    · rename_i hz
      exact ⟨_, rfl, hz, p.val s (.str _)⟩
    · exact p.elim
  · exact p.elim
theorem cb_int : CbF X ca (.type "int") intV := by
  refine ⟨_, CallR.or call_int_str call_int1, fun H m st xs vs Q s r p => ?_⟩
  unfold intV at p
  split at p
  · obtain ⟨v, rfl, r1⟩ := vrs1 r
    cases r1
    split at p
    · rename_i n hn
      split at p
      · rename_i hz
        exact .inl ⟨_, n, rfl, hn, hz, p.val s (.int _)⟩
      · exact p.elim
    · exact p.elim
  · obtain ⟨v, rfl, r1⟩ := vrs1 r
    cases r1
    exact .inr (.inl ⟨_, rfl, p.val s (.int _)⟩)
  · obtain ⟨v, rfl, r1⟩ := vrs1 r
    cases r1
    exact .inr (.inr ⟨_, rfl, p.val s (.int _)⟩)
  · exact p.elim
theorem cb_ord : CbF X ca (.builtin "ord") ordV := by
  refine ⟨_, call_ord, fun H m st xs vs Q s r p => ?_⟩
  unfold ordV at p
  split at p
  · obtain ⟨v, rfl, r1⟩ := vrs1 r
    cases r1
    split at p
    · rename_i hz
      exact ⟨_, rfl, hz, p.val s (.int _)⟩
    · exact p.elim
  · exact p.elim
theorem cb_isi : CbF X ca (.builtin "isinstance") isiV := by
  refine ⟨_, call_isi, fun H m st xs vs Q s r p => ?_⟩
  unfold isiV at p
  split at p
  · rename_i v0 n0
    obtain ⟨v, w, rfl, r1, r2⟩ := vrs2 r
    cases r2
    split at p
    · rename_i t ht
      cases hk : kitB t n0 with
      | none => rw [hk] at p; exact p.elim
      | some b =>
        rw [hk] at p
        exact ⟨v, _, _, _, b, rfl, .ty _, typ_ok s r1 ht, kit_ty hk, p.val s (.bl b)⟩
    · exact p.elim
  · exact p.elim
theorem ix_any : IxF X ca idxV := by
  refine ⟨_, ix_seq, fun H m st x y x' y' Q s rx ry p => ?_⟩
  unfold idxV at p
  split at p
  · cases ry
    rename_i i
    split at p
    · cases rx
      rename_i z
      split at p
      · rename_i hz
        cases he : atI z.cps.toList i with
        | none => rw [he] at p; exact p.elim
        | some c =>
          rw [he] at p
          exact .inr (.inr ⟨z, i, c, rfl, rfl, hz, he, p.val s (.str _)⟩)
      · exact p.elim
    · split at p
      · rename_i xs he
        obtain ⟨a, vs, rfl, hq, r2⟩ := seq_ok s rx he
        cases hi : atI xs i with
        | none => rw [hi] at p; exact p.elim
        | some v =>
          rw [hi] at p
          obtain ⟨w, e1, e2⟩ := atI_ok r2 hi
          rcases hq with hq | hq
          · exact .inl ⟨a, vs, i, w, rfl, rfl, hq, e1, p.val s e2⟩
          · exact .inr (.inl ⟨a, vs, i, w, rfl, rfl, hq, e1, p.val s e2⟩)
      · exact p.elim
  · exact p.elim
/-! ### in -/
theorem of_in (hu : X.A.units + 65 < cLine) : OpF X ca (compareOp .In) inV := by
  refine ⟨_, OpR.or op_in_sign (OpR.or op_in_str (OpR.or op_in_seq (op_inD hu))), fun H m st x y x' y' Q s rx ry p => ?_⟩
  unfold inV inB at p
  split at p
  · cases ry
    rename_i z
    split at p
    · cases rx
      rename_i a
      split at p
      · rename_i h1
        refine .inl ⟨a.cps.getD 0 0, z, ?_, rfl, p.val s (.bl _)⟩
        obtain ⟨⟨l⟩⟩ := a
        match l, h1 with
        | [c], _ => rfl
      · exact .inr (.inl ⟨a, z, rfl, rfl, p.val s (.bl _)⟩)
    · exact p.elim
  · split at p
    · rename_i ys he
      obtain ⟨a, vs, e0, hq, r2⟩ := seq_ok s ry he
      split at p
      · rename_i hf
        subst e0
        refine .inr (.inr (.inl ⟨a, vs, rfl, hq, flat_ok rx hf.1, flats_ok r2 hf.2, ?_⟩))
        show Q (.bl (L2.inV x' vs)) H
        rw [anyP_ok rx r2]
        exact p.val s (.bl _)
      · split at p
        · rename_i zs hz
          obtain ⟨a2, ws, e1, hq2, r3⟩ := lst_ok s ry hz
          split at p
          · rename_i d ds h1 h2
            obtain ⟨a1, a2, a3⟩ := toD_ok s rx h1
            obtain ⟨b1, b2, b3⟩ := toDs_ok (fun h e => toD_ok s h e) r3 h2
            subst e1
            refine .inr (.inr (.inr ⟨d, ds, a1, .lst hq2 b1, ?_, ?_, p.val s (.bl _)⟩))
            · unfold SeqAt.shaped; rw [a2, decide_eq_true a3]; rfl
            · unfold SeqAt.shaped
              rw [decide_eq_true (show (PyData.list ds).depth ≤ 64 by simp only [PyData.depth]; omega)]
              simp only [PyData.canLay0, b2]
              rfl
          · exact p.elim
        · exact p.elim
    · exact p.elim
theorem of_nin (hu : X.A.units + 65 < cLine) : OpF X ca (compareOp .NotIn) ninV := by
  refine ⟨_, OpR.or op_notIn_sign (OpR.or op_notin_str (OpR.or op_notIn_seq (op_notInD hu))), fun H m st x y x' y' Q s rx ry p => ?_⟩
  unfold ninV inB at p
  split at p
  · cases ry
    rename_i z
    split at p
    · cases rx
      rename_i a
      split at p
      · rename_i h1
        refine .inl ⟨a.cps.getD 0 0, z, ?_, rfl, p.val s (.bl _)⟩
        obtain ⟨⟨l⟩⟩ := a
        match l, h1 with
        | [c], _ => rfl
      · exact .inr (.inl ⟨a, z, rfl, rfl, p.val s (.bl _)⟩)
    · exact p.elim
  · split at p
    · rename_i ys he
      obtain ⟨a, vs, e0, hq, r2⟩ := seq_ok s ry he
      split at p
      · rename_i hf
        subst e0
        refine .inr (.inr (.inl ⟨a, vs, rfl, hq, flat_ok rx hf.1, flats_ok r2 hf.2, ?_⟩))
        show Q (.bl (!L2.inV x' vs)) H
        rw [anyP_ok rx r2]
        exact p.val s (.bl _)
      · split at p
        · rename_i zs hz
          obtain ⟨a2, ws, e1, hq2, r3⟩ := lst_ok s ry hz
          split at p
          · rename_i d ds h1 h2
            obtain ⟨a1, a2, a3⟩ := toD_ok s rx h1
            obtain ⟨b1, b2, b3⟩ := toDs_ok (fun h e => toD_ok s h e) r3 h2
            subst e1
            refine .inr (.inr (.inr ⟨d, ds, a1, .lst hq2 b1, ?_, ?_, p.val s (.bl _)⟩))
            · unfold SeqAt.shaped; rw [a2, decide_eq_true a3]; rfl
            · unfold SeqAt.shaped
              rw [decide_eq_true (show (PyData.list ds).depth ≤ 64 by simp only [PyData.depth]; omega)]
              simp only [PyData.canLay0, b2]
              rfl
          · exact p.elim
        · exact p.elim
    · exact p.elim
end

/-! ## slices -/
abbrev FO := Env → Store → R (Option Int)
def noO : FO := fun _ st => .ok none st
def asI (v : PV) (st : Store) : R (Option Int) := match v with
  | .int i => .ok (some i) st
  | _ => .no
def someO (f : FE) : FO := fun e st => (f e st).bind asI
def sliF (fo : FE) (fl fh : FO) : FE := fun e st => (fo e st).bind fun o s1 => (fl e s1).bind fun l s2 => (fh e s2).bind fun h s3 => R.of (slV o l h s3)
section
variable {X : Cx} {W : WX} {ca : String → Addr} {pos p2 : Pos}
structure JO (X : Cx) (W : WX) (ca : String → Addr) (e : Option Expr) (f : FO) : Prop where
  ex : ∃ t, L2.PO X e t ∧ ∀ σ H m env st Q, SR X.K ca H m st → ER X.K ca H m env σ → Post X.K ca (fun _ _ a b => a = b) (EW W ca σ) m H Q (f env st) → t σ H Q
theorem jo_none : JO X W ca none noO := ⟨_, po_none, fun σ H m env st Q s e h => h.ok s rfl⟩
theorem jo_some {e : Expr} {f : FE} (he : JE X W ca e f) : JO X W ca (some e) (someO f) := by
  obtain ⟨t, p, r⟩ := he.ex
  refine ⟨_, po_some p, fun σ H m env st Q s e h => ?_⟩
  refine r σ H m env st _ s e (Post.bind h fun x st1 m1 x' H1 p1 k1 s1 r1 h1 => ?_)
  cases r1 with
  | int i => exact ⟨i, rfl, h1.ok s1 rfl⟩
  | _ => exact h1.elim
theorem je_sl {e : Expr} {lo hi : Option Expr} {fo : FE} {fl fh : FO} (he : JE X W ca e fo) (hl : JO X W ca lo fl) (hh : JO X W ca hi fh) : JE X W ca (.Subscript e (.Slice lo hi none p2) pos) (sliF fo fl fh) := by
  obtain ⟨t, p, r⟩ := he.ex
  obtain ⟨t1, p1, r1⟩ := hl.ex
  obtain ⟨t2, p2, r2⟩ := hh.ex
  refine ⟨_, pe_slice (SlR.or sl_str (SlR.or sl_tupA sl_list)) p p1 p2, fun σ H m env st Q s e h => ?_⟩
  refine r σ H m env st _ s e (Post.bind h fun x st1 m1 x' H1 q1 k1 s1 rr1 h1 => ?_)
  refine r1 σ H1 m1 env st1 _ s1 (e.mono q1 k1) (Post.bind h1 fun l st2 m2 l' H2 q2 k2 s2 rr2 h2 => ?_)
  refine r2 σ H2 m2 env st2 _ s2 ((e.mono q1 k1).mono q2 k2) (Post.bind h2 fun u st3 m3 u' H3 q3 k3 s3 rr3 h3 => ?_)
  obtain rfl : l = l' := rr2
  obtain rfl : u = u' := rr3
  have rx := rr1.mono (q2.trans q3) (k2.trans k3)
  have hp := h3.of
  unfold slV at hp
  split at hp
  · cases rx
    rename_i z
    split at hp
    · rename_i hz
      exact .inl ⟨z, rfl, hz, hp.val s3 (.str _)⟩
    · exact hp.elim
  · cases rx with
    | tup hs rr =>
      rename_i xs a vs
      refine .inr (.inl ⟨a, vs, rfl, hs, fun e => ?_, fun _ q hq => hp.newT s3 (cut_ok rr l u) hq⟩)
      have ew : cutP xs l u = xs := by
        unfold cutP
        rw [rr.length, e.1, e.2, Nat.sub_zero, List.drop_zero, List.take_of_length_le (by rw [rr.length]; exact Nat.le_refl _)]
      rw [ew] at hp
      exact hp.val s3 (.tup hs rr)
  · rename_i v _ _
    cases he : lstAt st3 x with
    | none => rw [he] at hp; exact hp.elim
    | some xs =>
      rw [he] at hp
      obtain ⟨a, vs, rfl, hq, rr⟩ := lst_ok s3 rx he
      exact .inr (.inr ⟨a, vs, rfl, hq, fun q hq' => hp.newL s3 (cut_ok rr l u) hq'⟩)
end
end
end FL
end
section
set_option linter.all false
set_option maxRecDepth 100000
namespace FL
open PySem PySem.Spec PyProof.Rows L2
noncomputable section
/-! ## methods of built-in types -/
def tyOk (T : String) (o : PV) (st : Store) : Bool := match o with
  | .str _ => T == "str"
  | .frz _ => T == "list"
  | .ref n => match st[n]? with
    | some (.lst _) => T == "list"
    | some (.dK _) => T == "dict"
    | _ => false
  | _ => false
def bmF' (T : String) (g : PV → List PV → Store → O PV) (fo : FE) (f : FA) : FE := fun e st => (fo e st).bind fun o s1 => if tyOk T o s1 = true then (f e s1).bind fun xs s2 => R.of (g o xs s2) else .no
section
variable {K : PySem.W.Frag} {ca : String → Addr} {m m' : List Addr} {H H' : Hp} {st : Store}
theorem ty_ok (s : SR K ca H m st) {o : PV} {v : V} {T : String} (r : VR K ca H m o v) (e : tyOk T o st = true) : tyV K T v H := by
  cases r with
  | str x => exact eq_of_beq e
  | frz h r => exact .inl ⟨eq_of_beq e, _, h.sq⟩
  | ref hn =>
    simp only [tyOk] at e
    split at e
    · rename_i xs hx
      obtain ⟨vs, e1, _⟩ := getL s hx hn
      exact .inl ⟨eq_of_beq e, _, SqL.of e1⟩
    · rename_i xs hx
      obtain ⟨vs, e1, _⟩ := s.at hx hn
      exact .inr (.inr (.inl ⟨eq_of_beq e, .inl ⟨_, e1⟩⟩))
    · cases e
  | _ => cases e
end
section
variable {X : Cx} {W : WX} {ca : String → Addr}
theorem je_bm {o e : Expr} {es : List Expr} {name : Str} {apos cpos : Pos} {T id : String} {g : PV → List PV → Store → O PV} {fo : FE} {fa : FA} (pa : PlainAttrs T) (slot : Slot T name id) (hty : typeOf (.builtin id) = pure (.type "method_descriptor")) (hm : BmF X ca T id g) (ho : JE X W ca o fo) (ha : JA X W ca (e :: es) fa)
    (hbase : attributeBase o name X.env (eval o X.env) = eval o X.env := by rfl)
    (hfew : ((backTo cpos (starEach (e :: es) X.env)).all (fun x => !x.1) && (backToKw cpos (keywordEach [] X.env)).all (fun x => x.1.isSome)
      && decide ((e :: es).length + ([] : List Keyword).length + (if ([] : List Keyword).isEmpty then 0 else 1) < 30)) = true := by rfl)
    (hline : (apos.endLine == cpos.line) = true := by rfl) (hs : starEach (e :: es) X.env = (false, eval e X.env) :: starEach es X.env := by rfl) (hplain : (backTo cpos (starEach es X.env)).any (·.1) = false := by rfl) :
    JE X W ca (.Call (.Attribute o name apos) (e :: es) [] cpos) (bmF' T g fo fa) := by
  obtain ⟨t, p, r⟩ := ho.ex
  obtain ⟨ta, pA, ra⟩ := ha.ex
  obtain ⟨rr, pm, rm⟩ := hm
  refine ⟨_, pe_bm pa slot hty pm p pA hbase hfew hline hs hplain, fun σ H m env st Q s e h => ?_⟩
  refine r σ H m env st _ s e (Post.bind h fun x st1 m1 x' H1 p1 k1 s1 r1 h1 => ?_)
  split at h1
  · rename_i ht
    refine ⟨ty_ok s1 r1 ht, ra σ H1 m1 env st1 _ s1 (e.mono p1 k1) (Post.bind h1 fun xs st2 m2 vs H2 p2 k2 s2 r2 h2 => ?_)⟩
    exact rm H2 m2 st2 x x' xs vs Q s2 (r1.mono p2 k2) r2 h2.of
  · exact h1.elim
theorem je_bm0 {o : Expr} {name : Str} {apos cpos : Pos} {T id : String} {g : PV → List PV → Store → O PV} {fo : FE} (pa : PlainAttrs T) (slot : Slot T name id) (hty : typeOf (.builtin id) = pure (.type "method_descriptor")) (hm : BmF X ca T id g) (ho : JE X W ca o fo)
    (hbase : attributeBase o name X.env (eval o X.env) = eval o X.env := by rfl) (hline : (apos.endLine == cpos.line) = true := by rfl) : JE X W ca (.Call (.Attribute o name apos) [] [] cpos) (bmF' T g fo nilA) := by
  obtain ⟨t, p, r⟩ := ho.ex
  obtain ⟨rr, pm, rm⟩ := hm
  refine ⟨_, pe_bm0 pa slot hty pm p hbase hline, fun σ H m env st Q s e h => ?_⟩
  refine r σ H m env st _ s e (Post.bind h fun x st1 m1 x' H1 p1 k1 s1 r1 h1 => ?_)
  split at h1
  · rename_i ht
    refine ⟨ty_ok s1 r1 ht, ?_⟩
    exact rm H1 m1 st1 x x' [] [] Q s1 r1 .nil h1.of
  · exact h1.elim
/-- a method's rule by its weaker form -/
theorem BmF.mk {T id : String} {rr : V → List V → Hp → VK → Prop} {g : PV → List PV → Store → O PV} (h : MtR X id rr)
    (q : ∀ H m st o o' xs vs Q, SR X.K ca H m st → VR X.K ca H m o o' → VRs X.K ca H m xs vs → Post0 X.K ca (VR X.K ca) m H Q (g o xs st) → rr o' vs H Q) : BmF X ca T id g := ⟨_, h, q⟩
/-! ### lists -/
def appendV (o : PV) (xs : List PV) (st : Store) : O PV := match o, xs with
  | .ref n, [y] => match st[n]? with
    | some (.lst zs) => if zs.length < sizeLine then some (.non, st.set n (.lst (zs ++ [y]))) else none
    | _ => none
  | _, _ => none
theorem bm_append : BmF X ca "list" "list.append" appendV := by
  refine BmF.mk mt_append fun H m st o o' xs vs Q s ro rs p => ?_
  unfold appendV at p
  split at p
  · cases ro with
    | ref hn =>
      obtain ⟨v, rfl, r1⟩ := vrs1 rs
      split at p
      · rename_i zs hx
        obtain ⟨vs, e1, r2⟩ := getL s hx hn
        split at p
        · rename_i hz
          exact ⟨_, vs, v, rfl, rfl, e1, by rw [← r2.length]; exact hz, p.setL s hn e1 (r2.append (.cons r1 .nil)) .non⟩
        · exact p.elim
      · exact p.elim
  · exact p.elim
def extendV (o : PV) (xs : List PV) (st : Store) : O PV := match o, xs with
  | .ref n, [.ref k] => match st[n]?, st[k]? with
    | some (.lst zs), some (.lst ys) => if zs.length + ys.length ≤ sizeLine then some (.non, st.set n (.lst (zs ++ ys))) else none
    | _, _ => none
  | _, _ => none
theorem bm_extend : BmF X ca "list" "list.extend" extendV := by
  refine BmF.mk mt_extend fun H m st o o' xs vs Q s ro rs p => ?_
  unfold extendV at p
  split at p
  · cases ro with
    | ref hn =>
      obtain ⟨v, rfl, r1⟩ := vrs1 rs
      cases r1 with
      | ref hk =>
        split at p
        · rename_i zs ys hx hy
          obtain ⟨vs, e1, r2⟩ := getL s hx hn
          obtain ⟨ws, e2, r3⟩ := getL s hy hk
          split at p
          · rename_i hz
            exact ⟨_, _, vs, ws, rfl, rfl, e1, e2, by rw [← r2.length, ← r3.length]; exact hz, p.setL s hn e1 (r2.append r3) .non⟩
          · exact p.elim
        · exact p.elim
  · exact p.elim
def popV (o : PV) (xs : List PV) (st : Store) : O PV := match o, xs with
  | .ref n, [] => match st[n]? with
    | some (.lst zs) => match zs[zs.length - 1]? with
      | some y => some (y, st.set n (.lst zs.dropLast))
      | none => none
    | _ => none
  | _, _ => none
theorem bm_pop : BmF X ca "list" "list.pop" popV := by
  refine BmF.mk mt_pop fun H m st o o' xs vs Q s ro rs p => ?_
  unfold popV at p
  split at p
  · cases ro with
    | ref hn =>
      cases rs
      split at p
      · rename_i zs hx
        obtain ⟨vs, e1, r2⟩ := getL s hx hn
        split at p
        · rename_i y hy
          obtain ⟨w, h1, h2⟩ := r2.get hy
          rw [r2.length] at h1
          refine ⟨_, vs, w, rfl, rfl, e1, h1, ?_⟩
          refine p.setL s hn e1 ?_ h2
          rw [List.dropLast_eq_take, List.dropLast_eq_take, ← r2.length]
          exact r2.take _
        · exact p.elim
      · exact p.elim
  · exact p.elim
def reverseV (o : PV) (xs : List PV) (st : Store) : O PV := match o, xs with
  | .ref n, [] => match st[n]? with
    | some (.lst zs) => some (.non, st.set n (.lst zs.reverse))
    | _ => none
  | _, _ => none
theorem bm_reverse : BmF X ca "list" "list.reverse" reverseV := by
  refine BmF.mk mt_reverse fun H m st o o' xs vs Q s ro rs p => ?_
  unfold reverseV at p
  split at p
  · cases ro with
    | ref hn =>
      cases rs
      split at p
      · rename_i zs hx
        obtain ⟨vs, e1, r2⟩ := getL s hx hn
        exact ⟨_, vs, rfl, rfl, e1, p.setL s hn e1 r2.rev .non⟩
      · exact p.elim
  · exact p.elim
def clearV (o : PV) (xs : List PV) (st : Store) : O PV := match o, xs with
  | .ref n, [] => match st[n]? with
    | some (.lst zs) => some (.non, st.set n (.lst []))
    | _ => none
  | _, _ => none
theorem bm_clear : BmF X ca "list" "list.clear" clearV := by
  refine BmF.mk mt_clear fun H m st o o' xs vs Q s ro rs p => ?_
  unfold clearV at p
  split at p
  · cases ro with
    | ref hn =>
      cases rs
      split at p
      · rename_i zs hx
        obtain ⟨vs, e1, r2⟩ := getL s hx hn
        exact ⟨_, vs, rfl, rfl, e1, p.setL s hn e1 .nil .non⟩
      · exact p.elim
  · exact p.elim
/-! ### texts -/
def joinV (o : PV) (xs : List PV) (st : Store) : O PV := match o, xs with
  | .str a, [v] => match (seqAt st v).bind strsOf with
    | some ys => if (ys.map (·.length)).sum + ys.length * a.length ≤ 16777216 then some (.str (Txt.join a ys), st) else none
    | none => none
  | _, _ => none
theorem bm_join : BmF X ca "str" "str.join" joinV := by
  refine BmF.mk mt_join fun H m st o o' xs vs Q s ro rs p => ?_
  unfold joinV at p
  split at p
  · cases ro
    obtain ⟨v, rfl, r1⟩ := vrs1 rs
    split at p
    · rename_i ys he
      obtain ⟨zs, h1, h2⟩ := Option.bind_eq_some_iff.mp he
      obtain ⟨a, vs, rfl, hq, r2⟩ := seq_ok s r1 h1
      obtain rfl := strs_ok r2 h2
      split at p
      · rename_i hz
        exact ⟨_, a, ys, rfl, rfl, hq, hz, p.val s (.str _)⟩
      · exact p.elim
    · exact p.elim
  · exact p.elim
/-- a method text × text -/
def t2V (f : Str → Str → PV) (o : PV) (xs : List PV) (st : Store) : O PV := match o, xs with
  | .str a, [.str b] => some (f a b, st)
  | _, _ => none
abbrev countSV := t2V fun a b => .int (Txt.count a b)
abbrev findSV := t2V fun a b => .int (Txt.find a b)
abbrev startsV := t2V fun a b => .bl (Txt.startswith a b)
abbrev endsV := t2V fun a b => .bl (Txt.endswith a b)
theorem bm_t2 {id : String} {f : Str → Str → PV} {f' : Str → Str → V} (hf : ∀ H m a b, VR X.K ca H m (f a b) (f' a b)) (h : MtR X id (fun x xs H Q => ∃ a b, x = .str a ∧ xs = [.str b] ∧ Q (f' a b) H)) : BmF X ca "str" id (t2V f) := by
  refine BmF.mk h fun H m st o o' xs vs Q s ro rs p => ?_
  unfold t2V at p
  split at p
  · cases ro
    obtain ⟨v, rfl, r1⟩ := vrs1 rs
    cases r1
    exact ⟨_, _, rfl, rfl, p.val s (hf _ _ _ _)⟩
  · exact p.elim
theorem bm_countS : BmF X ca "str" "str.count" countSV := bm_t2 (fun _ _ _ _ => .int _) mt_count
theorem bm_findS : BmF X ca "str" "str.find" findSV := bm_t2 (fun _ _ _ _ => .int _) mt_find
theorem bm_starts : BmF X ca "str" "str.startswith" startsV := bm_t2 (fun _ _ _ _ => .bl _) mt_startswith
theorem bm_ends : BmF X ca "str" "str.endswith" endsV := bm_t2 (fun _ _ _ _ => .bl _) mt_endswith
def starts3V (o : PV) (xs : List PV) (st : Store) : O PV := match o, xs with
  | .str a, [.str b, .int i] => some (.bl (Txt.startswith3 a b i), st)
  | _, _ => none
theorem bm_starts3 : BmF X ca "str" "str.startswith" starts3V := by
  refine BmF.mk mt_startswith3 fun H m st o o' xs vs Q s ro rs p => ?_
  unfold starts3V at p
  split at p
  · cases ro
    obtain ⟨v, w, rfl, r1, r2⟩ := vrs2 rs
    cases r1
    cases r2
    exact ⟨_, _, _, rfl, rfl, p.val s (.bl _)⟩
  · exact p.elim
end

/-! ## what is walked -/
def gdOf (v : PV) (st : Store) : List (Nat × PO) := match v with
  | .ref n => match st[n]? with
    | some o => [(n, o)]
    | none => []
  | _ => []
/-- a list or a tuple, item by item -/
def seqI (f : FE) : FI := fun e st => (f e st).bind fun v s1 => match seqAt s1 v with
  | some xs => .ok ⟨xs, gdOf v s1⟩ s1
  | none => .no
def intL (lo c : Int) (n : Nat) : List PV := (List.range n).map fun i => .int (lo + (i : Nat) * c)
def rng1I (f : FA) : FI := fun e st => (f e st).bind fun xs s1 => match xs with
  | [.int j] => if -(2 ^ 62) ≤ j ∧ j < 2 ^ 62 then .ok ⟨intL 0 1 j.toNat, []⟩ s1 else .no
  | _ => .no
def rng2I (f : FA) : FI := fun e st => (f e st).bind fun xs s1 => match xs with
  | [.int i, .int j] => if -(2 ^ 62) ≤ i ∧ i < 2 ^ 62 ∧ -(2 ^ 62) ≤ j ∧ j < 2 ^ 62 then .ok ⟨intL i 1 (j - i).toNat, []⟩ s1 else .no
  | _ => .no
open Classical in
def rng3I (f : FA) : FI := fun e st => (f e st).bind fun xs s1 => match xs with
  | [.int i, .int j, .int c] => if ∃ n, RgC i j c n then .ok ⟨intL i c (Builtin.Range.rangeSize i j c).toNat, []⟩ s1 else .no
  | _ => .no
def enumL : List PV → Nat → List PV
  | [], _ => []
  | x :: r, i => .tup [.int (i : Nat), x] :: enumL r (i + 1)
def enumI (f : FA) : FI := fun e st => (f e st).bind fun xs s1 => match xs with
  | [v] => match lstAt s1 v with
    | some ys => .ok ⟨enumL ys 0, gdOf v s1⟩ s1
    | none => .no
  | _ => .no
def zipL : List PV → List PV → List PV
  | x :: r, y :: q => .tup [x, y] :: zipL r q
  | _, _ => []
def zipI (f : FA) : FI := fun e st => (f e st).bind fun xs s1 => match xs with
  | [.tup ys, .tup zs] => .ok ⟨zipL ys zs, []⟩ s1
  | [v, w] => match lstAt s1 v, lstAt s1 w with
    | some ys, some zs => .ok ⟨zipL ys zs, gdOf v s1 ++ gdOf w s1⟩ s1
    | _, _ => .no
  | _ => .no
def revI (f : FE) : FI := fun e st => (f e st).bind fun v s1 => match seqAt s1 v with
  | some xs => .ok ⟨xs.reverse, gdOf v s1⟩ s1
  | none => .no
def strI (f : FE) : FI := fun e st => (f e st).bind fun v s1 => match v with
  | .str x => .ok ⟨x.cps.toList.map fun c => .str ⟨#[c]⟩, []⟩ s1
  | _ => .no
section
variable {X : Cx} {W : WX} {ca : String → Addr} {tg : Expr}
/-- a list stays while its guard holds -/
theorem lst_stay {K : PySem.W.Frag} {H H' : Hp} {m m' : List Addr} {st st' : Store} {v : PV} {a : Addr} {xs : List PV} (s : SR K ca H m st) (r : VR K ca H m v (.ref a)) (e : lstAt st v = some xs) (p : m <+: m') (k : Keep K H H') (s' : SR K ca H' m' st') (g : GdOk (gdOf v st) st') :
    ∃ vs, SqL K H' a vs ∧ VRs K ca H' m' xs vs := by
  have r' := r.mono p k
  have e' : lstAt st' v = some xs := by
    cases v with
    | frz ys => exact e
    | ref n =>
      simp only [lstAt] at e ⊢
      cases q : st[n]? with
      | none => rw [q] at e; cases e
      | some o =>
        rw [q] at e
        have := g (n, o) (by simp only [gdOf, q]; exact List.mem_singleton.mpr rfl)
        rw [this]
        exact e
    | _ => cases e
  obtain ⟨b, vs, e1, e2, e3⟩ := lst_ok s' r' e'
  cases e1
  exact ⟨vs, e2, e3⟩
theorem seq_stay {K : PySem.W.Frag} {H H' : Hp} {m m' : List Addr} {st st' : Store} {v : PV} {a : Addr} {xs : List PV} (s : SR K ca H m st) (r : VR K ca H m v (.ref a)) (e : seqAt st v = some xs) (p : m <+: m') (k : Keep K H H') (s' : SR K ca H' m' st') (g : GdOk (gdOf v st) st') :
    (∃ ys, v = .tup ys ∧ ∃ vs, SqT K H' a vs ∧ VRs K ca H' m' xs vs) ∨ (lstAt st v = some xs ∧ ∃ vs, SqL K H' a vs ∧ VRs K ca H' m' xs vs) := by
  cases v with
  | tup ys =>
    simp only [seqAt, Option.some.injEq] at e
    subst e
    cases r with
    | tup h rr => exact .inl ⟨ys, rfl, _, k.t _ _ h, rr.mono p k⟩
  | frz ys => exact .inr ⟨e, lst_stay s r e p k s' g⟩
  | ref n => exact .inr ⟨e, lst_stay s r e p k s' g⟩
  | _ => cases e
theorem itr_list {K : PySem.W.Frag} {H : Hp} {m : List Addr} {st : Store} {v : PV} {a : Addr} {xs : List PV} (s : SR K ca H m st) (r : VR K ca H m v (.ref a)) (e : lstAt st v = some xs) : ItR K ca H m ⟨xs, gdOf v st⟩ (Itl K a) := by
  intro i m' H' st' p k s' g
  obtain ⟨vs, h1, h2⟩ := lst_stay s r e p k s' g
  refine ⟨fun x hx => ?_, fun hi => ⟨vs, h1, by rw [← h2.length]; exact hi⟩⟩
  obtain ⟨w, e1, e2⟩ := h2.get hx
  refine ⟨⟨vs, w, h1, e1⟩, fun y H'' ⟨eH, hy⟩ => ?_⟩
  subst eH
  have := (hy vs h1).symm.trans e1
  cases this
  exact ⟨Keep.refl, s', e2⟩
theorem itr_tup {K : PySem.W.Frag} {H : Hp} {m : List Addr} {a : Addr} {xs : List PV} (r : VR K ca H m (.tup xs) (.ref a)) (gd : List (Nat × PO)) : ItR K ca H m ⟨xs, gd⟩ (Itt K a) := by
  intro i m' H' st' p k s' g
  cases r with
  | tup h rr =>
    rename_i vs
    have h1 := k.t _ _ h
    have h2 := rr.mono p k
    refine ⟨fun x hx => ?_, fun hi => ⟨vs, h1, by rw [← h2.length]; exact hi⟩⟩
    obtain ⟨w, e1, e2⟩ := h2.get hx
    refine ⟨⟨vs, w, h1, e1⟩, fun y H'' ⟨eH, hy⟩ => ?_⟩
    subst eH
    have := (hy vs h1).symm.trans e1
    cases this
    exact ⟨Keep.refl, s', e2⟩
theorem pi_seq {l : Expr} {tl : TE} (hl : PE X l tl) : PI X tg l (fun σ H R => tl σ H fun x H1 => ∃ a, x = .ref a ∧ (((∃ xs, SqL X.K H1 a xs) ∧ R (Itl X.K a) H1) ∨ ((∃ xs, SqT X.K H1 a xs) ∧ R (Itt X.K a) H1))) := by
  refine ⟨fun pins s σ H R I h => ?_⟩
  refine thn (hl.run pins s σ H _ I h) fun v s1 ⟨x, H1, I1, r1, q1⟩ => ?_
  obtain ⟨a, e, ⟨⟨xs, hq⟩, q⟩ | ⟨⟨xs, hq⟩, q⟩⟩ := q1
  · subst e
    cases r1
    obtain ⟨its, rv, p, hz⟩ := I1.list hq
    refine wpAny_pyIter_list p.isList ?_
    refine ⟨s1.heap.objs.size, [s1.heap.objs.size], _, _, H1, rfl, I1.kept (t' := s1.toks) fun b o e => Heap.get?_push_of_some _ e, turn_list a _, ⟨_, Heap.get?_push_size _ rfl, rfl, rfl⟩, fun b hb => ?_, q⟩
    have e : b = s1.heap.objs.size := by simpa using hb
    subst e
    exact I1.fpOk (Nat.le_refl _) (I1.hok.fresh (Nat.le_refl _))
  · subst e
    cases r1
    obtain ⟨its, rv, p, hz⟩ := I1.tuple hq
    refine wpAny_pyIter_tuple (show s1.heap.IsTuple a its.toArray from p) ?_
    refine ⟨s1.heap.objs.size, [s1.heap.objs.size], _, _, H1, rfl, I1.kept (t' := s1.toks) fun b o e => Heap.get?_push_of_some _ e, turn_tuple a _, ⟨_, Heap.get?_push_size _ rfl, rfl, rfl⟩, fun b hb => ?_, q⟩
    have e : b = s1.heap.objs.size := by simpa using hb
    subst e
    exact I1.fpOk (Nat.le_refl _) (I1.hok.fresh (Nat.le_refl _))
theorem ji_seq {l : Expr} {f : FE} (hl : JE X W ca l f) : JI X W ca tg l (seqI f) := by
  obtain ⟨t, p, r⟩ := hl.ex
  refine ⟨_, pi_seq p, fun σ H m env st Q s e h => ?_⟩
  refine r σ H m env st _ s e (Post.bind h fun x st1 m1 x' H1 p1 k1 s1 r1 h1 => ?_)
  split at h1
  · rename_i xs he
    obtain ⟨a, vs, rfl, hq, r2⟩ := seq_ok s1 r1 he
    refine ⟨a, rfl, ?_⟩
    cases x with
    | tup ys =>
      simp only [seqAt, Option.some.injEq] at he
      subst he
      cases r1 with
      | tup hh rr => exact .inr ⟨⟨_, hh⟩, h1 m1 _ H1 (List.prefix_refl _) Keep.refl s1 (itr_tup (.tup hh rr) _)⟩
    | frz ys =>
      obtain ⟨b, ws, e1, e2, e3⟩ := lst_ok s1 r1 he
      cases e1
      exact .inl ⟨⟨_, e2⟩, h1 m1 _ H1 (List.prefix_refl _) Keep.refl s1 (itr_list s1 r1 he)⟩
    | ref n =>
      obtain ⟨b, ws, e1, e2, e3⟩ := lst_ok s1 r1 he
      cases e1
      exact .inl ⟨⟨_, e2⟩, h1 m1 _ H1 (List.prefix_refl _) Keep.refl s1 (itr_list s1 r1 he)⟩
    | _ => cases he
  · exact h1.elim
theorem intL_get {lo c : Int} {n i : Nat} : (intL lo c n)[i]? = if i < n then some (.int (lo + (i : Nat) * c)) else none := by
  unfold intL
  rw [List.getElem?_map]
  by_cases h : i < n
  · rw [List.getElem?_range h, if_pos h]; rfl
  · rw [if_neg h, List.getElem?_eq_none (by simpa using h)]; rfl
theorem intL_len {lo c : Int} {n : Nat} : (intL lo c n).length = n := by unfold intL; rw [List.length_map, List.length_range]
theorem itr_rng {K : PySem.W.Frag} {H : Hp} {m : List Addr} {lo : Int} {n : Nat} : ItR K ca H m ⟨intL lo 1 n, []⟩ (Itr lo n) := by
  intro i m' H' st' p k s' g
  refine ⟨fun x hx => ?_, fun hi => by rw [intL_len] at hi; exact hi⟩
  rw [intL_get] at hx
  split at hx
  · rename_i hi
    cases hx
    refine ⟨hi, fun y H'' ⟨eH, hy⟩ => ?_⟩
    subst eH hy
    rw [Int.mul_one]
    exact ⟨Keep.refl, s', .int _⟩
  · cases hx
theorem itr_rngc {K : PySem.W.Frag} {H : Hp} {m : List Addr} {lo c : Int} {n : Nat} : ItR K ca H m ⟨intL lo c n, []⟩ (Itc lo c n) := by
  intro i m' H' st' p k s' g
  refine ⟨fun x hx => ?_, fun hi => by rw [intL_len] at hi; exact hi⟩
  rw [intL_get] at hx
  split at hx
  · rename_i hi
    cases hx
    refine ⟨hi, fun y H'' ⟨eH, hy⟩ => ?_⟩
    subst eH hy
    exact ⟨Keep.refl, s', .int _⟩
  · cases hx
theorem vrs3 {K : PySem.W.Frag} {H : Hp} {m : List Addr} {x y z : PV} {vs : List V} (r : VRs K ca H m [x, y, z] vs) : ∃ v w u, vs = [v, w, u] ∧ VR K ca H m x v ∧ VR K ca H m y w ∧ VR K ca H m z u := by
  cases r with
  | cons h r => cases r with
    | cons h2 r => cases r with
      | cons h3 r => cases r; exact ⟨_, _, _, rfl, h, h2, h3⟩
theorem ji_rng1 {a : Expr} {fa : FA} {p pos : Pos} (hm : X.mg "range" = none) (ha : JA X W ca [a] fa) (hg : Gl X "range" := by rfl) (hs : starEach [a] X.env = [(false, eval a X.env)] := by rfl) : JI X W ca tg (.Call (.Name "range" p) [a] [] pos) (rng1I fa) := by
  obtain ⟨t, pa, r⟩ := ha.ex
  refine ⟨_, pi_range1 hg hm pa hs, fun σ H m env st Q s e h => ?_⟩
  refine r σ H m env st _ s e (Post.bind h fun x st1 m1 x' H1 p1 k1 s1 r1 h1 => ?_)
  split at h1
  · obtain ⟨v, rfl, q⟩ := vrs1 r1
    cases q
    split at h1
    · rename_i hz
      exact ⟨_, rfl, hz.1, hz.2, h1 m1 _ H1 (List.prefix_refl _) Keep.refl s1 itr_rng⟩
    · exact h1.elim
  · exact h1.elim
theorem ji_rng2 {a b : Expr} {fa : FA} {p pos : Pos} (hm : X.mg "range" = none) (ha : JA X W ca [a, b] fa) (hg : Gl X "range" := by rfl) (hs : starEach [a, b] X.env = [(false, eval a X.env), (false, eval b X.env)] := by rfl) (hs2 : starEach [b] X.env = [(false, eval b X.env)] := by rfl) : JI X W ca tg (.Call (.Name "range" p) [a, b] [] pos) (rng2I fa) := by
  obtain ⟨t, pa, r⟩ := ha.ex
  refine ⟨_, pi_range2 hg hm pa hs hs2, fun σ H m env st Q s e h => ?_⟩
  refine r σ H m env st _ s e (Post.bind h fun x st1 m1 x' H1 p1 k1 s1 r1 h1 => ?_)
  split at h1
  · obtain ⟨v, w, rfl, q, q2⟩ := vrs2 r1
    cases q
    cases q2
    split at h1
    · rename_i hz
      exact ⟨_, _, rfl, hz, h1 m1 _ H1 (List.prefix_refl _) Keep.refl s1 itr_rng⟩
    · exact h1.elim
  · exact h1.elim
theorem ji_rng3 {a b c : Expr} {fa : FA} {p pos : Pos} (hm : X.mg "range" = none) (ha : JA X W ca [a, b, c] fa) (hg : Gl X "range" := by rfl) (hs : starEach [a, b, c] X.env = (false, eval a X.env) :: starEach [b, c] X.env := by rfl) (hpl : (backTo pos (starEach [b, c] X.env)).any (·.1) = false := by rfl) : JI X W ca tg (.Call (.Name "range" p) [a, b, c] [] pos) (rng3I fa) := by
  obtain ⟨t, pa, r⟩ := ha.ex
  refine ⟨_, pi_range3 hg hm pa hs hpl, fun σ H m env st Q s e h => ?_⟩
  refine r σ H m env st _ s e (Post.bind h fun x st1 m1 x' H1 p1 k1 s1 r1 h1 => ?_)
  split at h1
  · obtain ⟨v, w, u, rfl, q, q2, q3⟩ := vrs3 r1
    cases q
    cases q2
    cases q3
    split at h1
    · rename_i hz
      obtain ⟨n, hn⟩ := hz
      have e1 := hn.2.2.2
      rw [e1, Int.toNat_natCast] at h1
      exact ⟨_, _, _, n, rfl, hn, h1 m1 _ H1 (List.prefix_refl _) Keep.refl s1 itr_rngc⟩
    · exact h1.elim
  · exact h1.elim
theorem enumL_get : ∀ {xs : List PV} {k i : Nat}, (enumL xs k)[i]? = (xs[i]?).map fun x => .tup [.int ((k + i : Nat) : Int), x]
  | [], _, _ => by simp [enumL]
  | x :: r, k, 0 => by simp [enumL]
  | x :: r, k, i + 1 => by
    rw [enumL, List.getElem?_cons_succ, List.getElem?_cons_succ, enumL_get (xs := r)]
    rw [show k + 1 + i = k + (i + 1) by omega]
theorem enumL_len : ∀ {xs : List PV} {k : Nat}, (enumL xs k).length = xs.length
  | [], _ => rfl
  | x :: r, k => by rw [enumL, List.length_cons, List.length_cons, enumL_len]
theorem itr_enum {K : PySem.W.Frag} {H : Hp} {m : List Addr} {st : Store} {v : PV} {a : Addr} {xs : List PV} (s : SR K ca H m st) (r : VR K ca H m v (.ref a)) (e : lstAt st v = some xs) : ItR K ca H m ⟨enumL xs 0, gdOf v st⟩ (Ite K a) := by
  intro i m' H' st' p k s' g
  obtain ⟨vs, h1, h2⟩ := lst_stay s r e p k s' g
  refine ⟨fun x hx => ?_, fun hi => ⟨vs, h1, by rw [← h2.length]; rw [enumL_len] at hi; exact hi⟩⟩
  rw [enumL_get] at hx
  obtain ⟨z, hz, rfl⟩ := Option.map_eq_some_iff.mp hx
  obtain ⟨w, e1, e2⟩ := h2.get hz
  refine ⟨⟨vs, w, h1, e1⟩, fun y H'' ⟨T, u, eT, hT, eH, hy⟩ => ?_⟩
  subst eT eH
  have := (hy vs h1).symm.trans e1
  cases this
  obtain ⟨q1, q2, q3⟩ := upd_t s' hT (xs := [.int (i : Nat), z]) (vs := [.int (i : Nat), w]) (.cons (.int _) (.cons e2 .nil))
  rw [Nat.zero_add]
  exact ⟨q1, q2, q3⟩
theorem ji_enum {a : Expr} {fa : FA} {p pos tpos : Pos} {elts : List Expr} {kk : Nat} (hm : X.mg "enumerate" = none) (ha : JA X W ca [a] fa) (hg : Gl X "enumerate" := by rfl) (hs : starEach [a] X.env = [(false, eval a X.env)] := by rfl) : JI X W ca (.Tuple elts kk tpos) (.Call (.Name "enumerate" p) [a] [] pos) (enumI fa) := by
  obtain ⟨t, pa, r⟩ := ha.ex
  refine ⟨_, pi_enum hg hm pa hs, fun σ H m env st Q s e h => ?_⟩
  refine r σ H m env st _ s e (Post.bind h fun x st1 m1 x' H1 p1 k1 s1 r1 h1 => ?_)
  split at h1
  · obtain ⟨v, rfl, q⟩ := vrs1 r1
    split at h1
    · rename_i ys he
      obtain ⟨a, vs, rfl, hq, r2⟩ := lst_ok s1 q he
      exact ⟨a, vs, rfl, hq, h1 m1 _ H1 (List.prefix_refl _) Keep.refl s1 (itr_enum s1 q he)⟩
    · exact h1.elim
  · exact h1.elim
theorem zipL_get : ∀ {xs ys : List PV} {i : Nat} {z : PV}, (zipL xs ys)[i]? = some z → ∃ x y, xs[i]? = some x ∧ ys[i]? = some y ∧ z = .tup [x, y]
  | [], ys, _, _, h => by simp [zipL] at h
  | _ :: _, [], _, _, h => by simp [zipL] at h
  | x :: r, y :: q, 0, z, h => by simp [zipL] at h; exact ⟨x, y, rfl, rfl, h.symm⟩
  | x :: r, y :: q, i + 1, z, h => by
    rw [zipL, List.getElem?_cons_succ] at h
    obtain ⟨a, b, h1, h2, h3⟩ := zipL_get h
    exact ⟨a, b, by simpa using h1, by simpa using h2, h3⟩
theorem zipL_len : ∀ {xs ys : List PV}, (zipL xs ys).length = min xs.length ys.length
  | [], ys => by simp [zipL]
  | _ :: _, [] => by simp [zipL]
  | x :: r, y :: q => by rw [zipL, List.length_cons, List.length_cons, List.length_cons, zipL_len]; omega
theorem ji_zip {a b : Expr} {fa : FA} {p pos tpos : Pos} {elts : List Expr} {kk : Nat} (hm : X.mg "zip" = none) (ha : JA X W ca [a, b] fa) (hg : Gl X "zip" := by rfl)
    (hz : ∀ {ta : TA}, PA X [a, b] ta → PI X (.Tuple elts kk tpos) (.Call (.Name "zip" p) [a, b] [] pos) (RZ.iZipA X.K ta)) : JI X W ca (.Tuple elts kk tpos) (.Call (.Name "zip" p) [a, b] [] pos) (zipI fa) := by
  obtain ⟨t, pa, r⟩ := ha.ex
  refine ⟨_, hz pa, fun σ H m env st Q s e h => ?_⟩
  refine r σ H m env st _ s e (Post.bind h fun x st1 m1 x' H1 p1 k1 s1 r1 h1 => ?_)
  split at h1
  · obtain ⟨v, w, rfl, q1, q2⟩ := vrs2 r1
    cases q1 with
    | tup hs1 rr1 => cases q2 with
      | tup hs2 rr2 =>
        refine ⟨_, _, _, _, rfl, .inr ⟨hs1, hs2, h1 m1 _ H1 (List.prefix_refl _) Keep.refl s1 fun i m' H' st' p k s' g => ?_⟩⟩
        have g1 := k.t _ _ hs1
        have g2 := k.t _ _ hs2
        have t1 := rr1.mono p k
        have t2 := rr2.mono p k
        refine ⟨fun z hz => ?_, fun hi => ⟨_, _, g1, g2, ?_⟩⟩
        · obtain ⟨x, y, e1, e2, rfl⟩ := zipL_get hz
          obtain ⟨x', a1, a2⟩ := t1.get e1
          obtain ⟨y', b1, b2⟩ := t2.get e2
          refine ⟨⟨_, _, x', y', g1, g2, a1, b1⟩, fun z H'' ⟨T, u, u', eT, hT, eH, hy1, hy2⟩ => ?_⟩
          subst eT eH
          have i1 := (hy1 _ g1).symm.trans a1
          have i2 := (hy2 _ g2).symm.trans b1
          cases i1
          cases i2
          exact upd_t s' hT (.cons a2 (.cons b2 .nil))
        · simp only [zipL_len] at hi
          rw [← t1.length, ← t2.length]
          omega
  · obtain ⟨v, w, rfl, q1, q2⟩ := vrs2 r1
    split at h1
    · rename_i _ _ ys zs he1 he2
      obtain ⟨a1, vs1, rfl, hq1, rr1⟩ := lst_ok s1 q1 he1
      obtain ⟨a2, vs2, rfl, hq2, rr2⟩ := lst_ok s1 q2 he2
      refine ⟨_, _, _, _, rfl, .inl ⟨hq1, hq2, h1 m1 _ H1 (List.prefix_refl _) Keep.refl s1 fun i m' H' st' p k s' g => ?_⟩⟩
      obtain ⟨ws1, g1, t1⟩ := lst_stay s1 q1 he1 p k s' fun z hz => g z (List.mem_append_left _ hz)
      obtain ⟨ws2, g2, t2⟩ := lst_stay s1 q2 he2 p k s' fun z hz => g z (List.mem_append_right _ hz)
      refine ⟨fun z hz => ?_, fun hi => ⟨_, _, g1, g2, ?_⟩⟩
      · obtain ⟨x, y, e1, e2, rfl⟩ := zipL_get hz
        obtain ⟨x', a1, a2⟩ := t1.get e1
        obtain ⟨y', b1, b2⟩ := t2.get e2
        refine ⟨⟨_, _, x', y', g1, g2, a1, b1⟩, fun z H'' ⟨T, u, u', eT, hT, eH, hy1, hy2⟩ => ?_⟩
        subst eT eH
        have i1 := (hy1 _ g1).symm.trans a1
        have i2 := (hy2 _ g2).symm.trans b1
        cases i1
        cases i2
        exact upd_t s' hT (.cons a2 (.cons b2 .nil))
      · simp only [zipL_len] at hi
        rw [← t1.length, ← t2.length]
        omega
    · exact h1.elim
  · exact h1.elim
theorem rev_get {α : Type} {xs : List α} {i : Nat} {x : α} (h : xs.reverse[i]? = some x) : i < xs.length ∧ xs[xs.length - 1 - i]? = some x := by
  have hi : i < xs.length := by
    have := (List.getElem?_eq_some_iff.mp h).1
    rwa [List.length_reverse] at this
  rw [List.getElem?_reverse hi] at h
  exact ⟨hi, h⟩
theorem ji_rev {l : Expr} {f : FE} {p pos : Pos} (hm : X.mg "reversed" = none) (hl : JE X W ca l f) (hg : Gl X "reversed" := by rfl) (hs : starEach [l] X.env = (false, eval l X.env) :: starEach [] X.env := by rfl) : JI X W ca tg (.Call (.Name "reversed" p) [l] [] pos) (revI f) := by
  obtain ⟨t, pl, r⟩ := hl.ex
  refine ⟨_, RT.pi_revA hg hm pl hs, fun σ H m env st Q s e h => ?_⟩
  refine r σ H m env st _ s e (Post.bind h fun x st1 m1 x' H1 p1 k1 s1 r1 h1 => ?_)
  split at h1
  · rename_i xs he
    have lstc : ∀ {v : PV}, VR X.K ca H1 m1 v x' → lstAt st1 v = some xs → Post X.K ca (ItR X.K ca) (EW W ca σ) m1 H1 Q (.ok ⟨xs.reverse, gdOf v st1⟩ st1) → ∃ (a : Addr) (ws : List V), x' = .ref a ∧ ((SqL X.K H1 a ws ∧ Q (Itv X.K a ws.length) H1) ∨ (SqT X.K H1 a ws ∧ Q (RT.ItvT X.K a ws.length) H1)) := by
      intro v r1 he h1
      obtain ⟨a, vs, rfl, hq, r2⟩ := lst_ok s1 r1 he
      refine ⟨a, vs, rfl, .inl ⟨hq, h1 m1 _ H1 (List.prefix_refl _) Keep.refl s1 fun i m' H' st' p k s' g => ?_⟩⟩
      obtain ⟨ws, g1, t1⟩ := lst_stay s1 r1 he p k s' g
      refine ⟨fun z hz => ?_, fun hi => by rw [List.length_reverse] at hi; rw [← r2.length]; exact hi⟩
      obtain ⟨h3, h4⟩ := rev_get hz
      rw [r2.length] at h4
      obtain ⟨w, e1, e2⟩ := t1.get h4
      refine ⟨⟨by rw [← r2.length]; exact h3, ws, w, g1, e1⟩, fun y H'' ⟨eH, hy⟩ => ?_⟩
      subst eH
      have := (hy ws g1).symm.trans e1
      cases this
      exact ⟨Keep.refl, s', e2⟩
    cases x with
    | tup ys =>
      simp only [seqAt, Option.some.injEq] at he
      subst he
      cases r1 with
      | tup hh rr =>
        rename_i a vs
        refine ⟨a, vs, rfl, .inr ⟨hh, h1 m1 _ H1 (List.prefix_refl _) Keep.refl s1 fun i m' H' st' p k s' g => ?_⟩⟩
        have g1 := k.t _ _ hh
        have t1 := rr.mono p k
        refine ⟨fun z hz => ?_, fun hi => by rw [List.length_reverse] at hi; rw [← rr.length]; exact hi⟩
        obtain ⟨h3, h4⟩ := rev_get hz
        rw [rr.length] at h4
        obtain ⟨w, e1, e2⟩ := t1.get h4
        refine ⟨⟨by rw [← rr.length]; exact h3, vs, w, g1, e1⟩, fun y H'' ⟨eH, hy⟩ => ?_⟩
        subst eH
        have := (hy vs g1).symm.trans e1
        cases this
        exact ⟨Keep.refl, s', e2⟩
    | frz ys => exact lstc r1 he h1
    | ref n => exact lstc r1 he h1
    | _ => cases he
  · exact h1.elim
theorem ji_str {l : Expr} {f : FE} (hl : JE X W ca l f) : JI X W ca tg l (strI f) := by
  obtain ⟨t, p, r⟩ := hl.ex
  refine ⟨_, pi_str p, fun σ H m env st Q s e h => ?_⟩
  refine r σ H m env st _ s e (Post.bind h fun x st1 m1 x' H1 p1 k1 s1 r1 h1 => ?_)
  split at h1
  · cases r1
    rename_i x
    refine ⟨x, rfl, h1 m1 _ H1 (List.prefix_refl _) Keep.refl s1 fun i m' H' st' p k s' g => ?_⟩
    refine ⟨fun z hz => ?_, fun hi => (by simpa using hi : x.cps.size ≤ i)⟩
    rw [List.getElem?_map] at hz
    obtain ⟨c, hc, rfl⟩ := Option.map_eq_some_iff.mp hz
    have hc' : x.cps[i]? = some c := by simpa using hc
    refine ⟨(Array.getElem?_eq_some_iff.mp hc').1, fun y H'' ⟨eH, c', h1, h2⟩ => ?_⟩
    subst eH h2
    rw [hc'] at h1
    cases h1
    exact ⟨Keep.refl, s', .str _⟩
  · exact h1.elim
end
end
end FL
end
section
set_option linter.all false
set_option maxRecDepth 100000
namespace FL
open PySem PySem.Spec PyProof.Rows L2
noncomputable section
section
variable {X : Cx} {W : WX} {ca : String → Addr}
theorem je_globE {x : Str} {v : PV} {pos : Pos} (h : ∃ u w, X.mg x = some u ∧ RelV w u ∧ ∀ ca H m, VR X.K ca H m v w) (hg : Gl X x) (hd : (x == ("__debug__" : Str)) = false := by decide) : JE X W ca (.Name x pos) (cstF v) := by
  obtain ⟨u, w, h1, h2, h3⟩ := h
  exact je_glob hg h1 h2 (h3 ca) hd
theorem je_globC {x : Str} {n : String} {a : Addr} {pos : Pos} (hm : X.mg x = some (.ref a)) (hc : ca n = a) (hg : Gl X x) (hd : (x == ("__debug__" : Str)) = false := by decide) : JE X W ca (.Name x pos) (cstF (.cls n)) :=
  je_glob (w := .ref a) hg hm rfl (fun H m => by rw [← hc]; exact .cls n) hd
theorem jt_ch {op op' : CmpOp} {a b c : Expr} {pos : Pos} {fa fb fc : FE} {g g' : PV → PV → Store → O PV} (ho : OpF X ca (compareOp op) g) (ho' : OpF X ca (compareOp op') g') (ha : JE X W ca a fa) (hb : JE X W ca b fb) (hc : JE X W ca c fc)
    (hm : lastMarks [op, op'] [b, c] = false := by with_unfolding_all rfl) : JT X W ca (.Compare a [op, op'] [b, c] pos) (isB (chF g g' fa fb fc)) := by
  obtain ⟨ta, pa, ra⟩ := ha.ex
  obtain ⟨tb, pb, rb⟩ := hb.ex
  obtain ⟨tc, pc, rc⟩ := hc.ex
  obtain ⟨r, po, ro⟩ := ho
  obtain ⟨r', po', ro'⟩ := ho'
  refine ⟨_, pt_chain po po' pa pb pc hm, fun σ H m env st Q s e h => ?_⟩
  show tChain r r' ta tb tc σ H (fun x H' => ∃ k, x = .bl k ∧ Q k H')
  have h' : Post X.K ca rB (EW W ca σ) m H Q ((fa env st).bind fun x s1 => (fb env s1).bind fun y s2 => (R.of (g x y s2)).bind fun z s3 => (asB z s3).bind fun k s4 =>
      (if k = true then (fc env s4).bind fun u s5 => R.of (g' y u s5) else .ok (.bl false) s4).bind asB) := by
    unfold isB chF at h
    cases q : fa env st with
    | ok x s1 =>
      rw [q] at h
      simp only [R.bind] at h ⊢
      cases q2 : fb env s1 with
      | ok y s2 =>
        rw [q2] at h
        simp only at h ⊢
        cases q3 : R.of (g x y s2) with
        | ok z s3 =>
          rw [q3] at h
          simp only at h ⊢
          cases q4 : asB z s3 <;> rw [q4] at h <;> exact h
        | er z s3 => rw [q3] at h; exact h
        | no => rw [q3] at h; exact h
      | er y s2 => rw [q2] at h; exact h
      | no => rw [q2] at h; exact h
    | er x s1 => rw [q] at h; exact h
    | no => rw [q] at h; exact h
  refine ra σ H m env st _ s e (Post.bind h' fun x st1 m1 x' H1 p1 k1 s1 r1 h1 => ?_)
  refine rb σ H1 m1 env st1 _ s1 (e.mono p1 k1) (Post.bind h1 fun y st2 m2 y' H2 p2 k2 s2 r2 h2 => ?_)
  refine ro H2 m2 st2 x y x' y' _ s2 (r1.mono p2 k2) r2 (Post.of (Post.bind h2 fun z st3 m3 z' H3 p3 k3 s3 r3 h3 => ?_))
  have h4 := Post.bind (rel := rB) (Q1 := fun k H4 => H4 = H3 → if k = true then tc σ H4 (fun u H5 => r' y' u H5 (fun x H' => ∃ k, x = .bl k ∧ Q k H')) else ∃ k, V.bl false = .bl k ∧ Q k H4) h3 fun k st4 m4 k' H4 p4 k4 s4 r4 h4 e4 => by
    subst e4
    have rk : k = k' := r4
    subst rk
    cases k with
    | true =>
      rw [if_pos rfl] at h4 ⊢
      have h5 : Post X.K ca rB (EW W ca σ) m4 H4 Q ((fc env st4).bind fun u s5 => (R.of (g' y u s5)).bind asB) := by
        cases q : fc env st4 <;> rw [q] at h4 <;> exact h4
      refine rc σ H4 m4 env st4 _ s4 (e.mono (((p1.trans p2).trans p3).trans p4) (((k1.trans k2).trans k3).trans k4)) (Post.bind h5 fun u st5 m5 u' H5 p5 k5 s5 r5 h5 => ?_)
      refine ro' H5 m5 st5 y u y' u' _ s5 (r2.mono ((p3.trans p4).trans p5) ((k3.trans k4).trans k5)) r5 (Post.of (Post.bind h5 fun z st6 m6 z' H6 p6 k6 s6 r6 h6 => ?_))
      exact asB_post h6 s6 r6
    | false =>
      rw [if_neg Bool.false_ne_true] at h4 ⊢
      exact ⟨false, rfl, h4.ok s4 rfl⟩
  obtain ⟨k, ek, q⟩ := asB_post h4 s3 r3
  subst ek
  exact ⟨k, rfl, q rfl⟩
/-! ## stores into a list -/
def setLV (o i v : PV) (st : Store) : Option Store := match o, i with
  | .ref n, .int k => match st[n]? with
    | some (.lst xs) => (ixN xs.length k).map fun j => st.set n (.lst (xs.set j v))
    | _ => none
  | _, _ => none
theorem sf_list : SetF X ca setLV := by
  refine ⟨_, set_list, fun H m st o i v o' i' v' st' Q s ro ri rv e q => ?_⟩
  unfold setLV at e
  split at e
  · cases ri
    cases ro with
    | ref hn =>
      split at e
      · rename_i xs hx
        obtain ⟨vs, e1, r2⟩ := getL s hx hn
        obtain ⟨j, hj, rfl⟩ := Option.map_eq_some_iff.mp e
        have kk := Keep.upd (K := X.K) (o := .lst (vs.set j v')) e1 (fun _ z => nomatch z) (fun _ _ z => nomatch z)
        refine ⟨_, vs, _, j, rfl, rfl, e1, by rw [← r2.length]; exact hj, q _ kk (s.set hn e1 (fun _ z => nomatch z) (fun _ _ z => nomatch z) ⟨_, upd_same, (r2.set rv j).mono (List.prefix_refl _) kk⟩)⟩
      · cases e
  · cases e
end
/-! ## the end -/
section
variable {P : Program} {w : World} {K : PySem.W.Frag} {mg : Str → Option Value} {base : Heap} {ca : String → Addr}
theorem Cal.mono {j k : Nat} {f : Addr} {fd : FuncData} {ps : List Str} {F : Fn} (C : Cal P w K mg base ca j f fd ps F) (h : j ≤ k) : Cal P w K mg base ca k f fd ps F := ⟨C.ok.mono h, C.kp⟩
/-- what the law promises -/
def spTop (K : PySem.W.Frag) : Sp := fun vs H Q _ => ∃ (a : Addr) (ns : List Int), vs = [.ref a] ∧ ns.length ≤ 63 ∧ Only H ∧ SqL K H a (ns.map V.int) ∧ ∀ H', Q (.bl true) H'
theorem top_ok {k : Nat} {f : Addr} {fd : FuncData} {x : Str} {F : Fn} (C : Cal P w K mg base ca k f fd [x] F) (h : ∀ ns : List Int, ns.length ≤ 63 → ∃ st, F [.frz (ns.map PV.int)] [] = .ok (.bl true) st) : FnOk P w K mg base (L2.CX P w) k f fd [x] (spTop K) := by
  refine C.ok.imp fun vs H Q E hh => ?_
  obtain ⟨a, ns, rfl, hl, hO, hS, q⟩ := hh
  obtain ⟨st, e⟩ := h ns hl
  refine ⟨[], [], [.frz (ns.map PV.int)], ⟨rfl, List.nodup_nil, fun n a o z => by cases z⟩, .cons (.frz ?_ (VRs.ints ns)) .nil, rfl, ?_⟩
  · rcases hS with (hS | hS) | hS
    · rcases hO a with z | ⟨o, xs, z⟩
      · rw [z] at hS; cases hS
      · rw [z] at hS; cases hS
    · exact .inl hS
    · exact .inr hS
  · rw [e]
    intro m' b H' _ _ _ r
    cases r
    exact q H'
theorem top_cx (P : Program) (w : World) (H : Hp) (s : Shared) (e : Value) (s' : Shared) (h : L2.CX P w [] H s (fun _ _ _ => False) e s') : False := by
  obtain ⟨_, _, _, _, _, _, _, _, _, _, _, _, z⟩ := h
  exact z.elim
theorem hu65 {A : Around} {k : Nat} (hr : Room k A) : A.units + 65 < cLine := by have := hr.un; omega
theorem hu64 {A : Around} {k : Nat} (hr : Room k A) : A.units + 64 < cLine := by have := hr.un; omega
end
end
end FL
end
section
set_option linter.all false
set_option maxRecDepth 100000
namespace FL
open PySem PySem.Spec PyProof.Rows L2
noncomputable section
/-! ## reasoning about what defs do -/
theorem bind_ok {α β : Type} (a : α) (s : Store) (g : α → Store → R β) : (R.ok a s).bind g = g a s := rfl
theorem toS_ok {α : Type} (a : α) (s : Store) (e : Env) (g : α → Store → RS) : (R.ok a s).toS e g = g a s := rfl
theorem of_some {α : Type} (a : α) (s : Store) : R.of (some (a, s)) = .ok a s := rfl
theorem seqS_nx {f g : FS} {e e1 : Env} {s s1 : Store} (h : f e s = .nx e1 s1) : seqS f g e s = g e1 s1 := by unfold seqS; rw [h]
theorem seqS_rt {f g : FS} {e : Env} {s s1 : Store} {v : PV} (h : f e s = .rt v s1) : seqS f g e s = .rt v s1 := by unfold seqS; rw [h]
theorem seqS_er {f g : FS} {e e1 : Env} {s s1 : Store} {x : Ex} (h : f e s = .er x e1 s1) : seqS f g e s = .er x e1 s1 := by unfold seqS; rw [h]
theorem ifS_t {c : FT} {f g : FS} {e : Env} {s s1 : Store} (h : c e s = .ok true s1) : ifS c f g e s = f e s1 := by unfold ifS; rw [h]; rfl
theorem ifS_f {c : FT} {f g : FS} {e : Env} {s s1 : Store} (h : c e s = .ok false s1) : ifS c f g e s = g e s1 := by unfold ifS; rw [h]; rfl
/-- what was made and is not handed out is forgotten -/
theorem pre_app (st g : Store) : preOk st (st ++ g) := fun k hk => .inl (List.getElem?_append_left hk)
theorem gc_app {v : PV} {st g : Store} (h : refsOk st.length v = true) : gc st v (st ++ g) = .ok v st := by
  unfold gc
  rw [if_pos ⟨by simp, pre_app st g⟩, if_pos h, List.take_left' rfl]
theorem gc_same {v : PV} {st : Store} (h : refsOk st.length v = true) : gc st v st = .ok v st := by
  have := gc_app (g := []) h
  rwa [List.append_nil] at this
/-- a new list of things without references -/
theorem gc_new {st g : Store} {r : Nat} {o : PO} (h : (st ++ g)[r]? = some o) (hr : st.length ≤ r) (ho : objOk st.length o = true) : gc st (.ref r) (st ++ g) = .ok (.ref st.length) (st ++ [o]) := by
  unfold gc
  have n : ¬ refsOk st.length (.ref r) = true := by simp [refsOk]; omega
  rw [if_pos ⟨by simp, pre_app st g⟩, if_neg n]
  simp only [h]
  rw [if_pos ⟨ho, hr⟩, List.take_left' rfl]
theorem gcx_app {x : Ex} {st g : Store} (h : x.val = none) : gcx st x (st ++ g) = .er x st := by
  unfold gcx
  rw [if_pos ⟨by simp, pre_app st g, fun p hp => by rw [h] at hp; cases hp⟩, List.take_left' rfl]
mutual
/-- things without any reference -/
def pureP : PV → Bool
  | .ref _ => false
  | .tup xs => puresP xs
  | .frz xs => puresP xs
  | _ => true
def puresP : List PV → Bool
  | [] => true
  | x :: xs => pureP x && puresP xs
end
mutual
theorem pure_refs (n : Nat) : ∀ {v : PV}, pureP v = true → refsOk n v = true
  | .non, _ => rfl
  | .bl _, _ => rfl
  | .int _, _ => rfl
  | .str _, _ => rfl
  | .ty _, _ => rfl
  | .cls _, _ => rfl
  | .ref _, h => by cases h
  | .tup xs, h => by simp only [refsOk]; exact pures_refs n (by simpa only [pureP] using h)
  | .frz xs, h => by simp only [refsOk]; exact pures_refs n (by simpa only [pureP] using h)
theorem pures_refs (n : Nat) : ∀ {xs : List PV}, puresP xs = true → refsOks n xs = true
  | [], _ => rfl
  | x :: xs, h => by
    simp only [puresP, Bool.and_eq_true] at h
    simp only [refsOks, Bool.and_eq_true]
    exact ⟨pure_refs n h.1, pures_refs n h.2⟩
end
theorem pures_iff {xs : List PV} : puresP xs = true ↔ ∀ x ∈ xs, pureP x = true := by
  induction xs with
  | nil => simp [puresP]
  | cons x xs ih => simp [puresP, ih]
theorem run_rt {n : Nat} {body : FS} {args : List PV} {st g : Store} {v : PV} (h : body (args.map some ++ List.replicate (n - args.length) none) st = .rt v (st ++ g)) (p : pureP v = true) : runFn n body args st = .ok v st := by
  unfold runFn
  rw [h]
  exact gc_app (pure_refs _ p)
theorem run_rt0 {n : Nat} {body : FS} {args : List PV} {st : Store} {v : PV} (h : body (args.map some ++ List.replicate (n - args.length) none) st = .rt v st) (p : pureP v = true) : runFn n body args st = .ok v st := by
  unfold runFn
  rw [h]
  exact gc_same (pure_refs _ p)
theorem run_new {n : Nat} {body : FS} {args : List PV} {st g : Store} {r : Nat} {o : PO} (h : body (args.map some ++ List.replicate (n - args.length) none) st = .rt (.ref r) (st ++ g)) (hr : (st ++ g)[r]? = some o) (hl : st.length ≤ r) (ho : objOk st.length o = true) :
    runFn n body args st = .ok (.ref st.length) (st ++ [o]) := by
  unfold runFn
  rw [h]
  exact gc_new hr hl ho
/-! ### places of the store -/
theorem getS {st g : Store} {i : Nat} : (st ++ g)[st.length + i]? = g[i]? := by rw [List.getElem?_append_right (by omega)]; congr 1; omega
theorem getS0 {st g : Store} : (st ++ g)[st.length]? = g[0]? := getS (i := 0)
theorem setS_app {st g : Store} {i : Nat} {o : PO} : (st ++ g).set (st.length + i) o = st ++ g.set i o := by
  rw [List.set_append_right _ _ (by omega)]
  congr 2
  omega
theorem setS0_app {st g : Store} {o : PO} : (st ++ g).set st.length o = st ++ g.set 0 o := setS_app (i := 0)
theorem lenS {st g : Store} : (st ++ g).length = st.length + g.length := List.length_append
theorem appS {st g k : Store} : (st ++ g) ++ k = st ++ (g ++ k) := List.append_assoc ..
theorem appS0 {st k : Store} : st ++ k = st ++ k := rfl
theorem getOld {st g : Store} {i : Nat} {o : PO} (h : st[i]? = some o) : (st ++ g)[i]? = some o := by
  rw [List.getElem?_append_left (List.getElem?_eq_some_iff.mp h).1]
  exact h
/-! ### walks -/
theorem gd_nil (st : Store) : GdOk [] st := fun p hp => by cases hp
theorem forL_wp {gd : List (Nat × PO)} {g : FG} {b : FS} (Q : RS → Prop) (P : Nat → Env → Store → Prop) : ∀ {xs : List PV} {k : Nat} {e : Env} {st : Store} (h0 : P k e st)
    (hs : ∀ i x e st, xs[i]? = some x → P (k + i) e st → GdOk gd st ∧ ∃ e1, g x e = some e1 ∧ (match b e1 st with
      | .nx e2 s2 => P (k + i + 1) e2 s2
      | .ct e2 s2 => P (k + i + 1) e2 s2
      | .bk e2 s2 => Q (.nx e2 s2)
      | r => Q r))
    (hd : ∀ e st, P (k + xs.length) e st → GdOk gd st ∧ Q (.nx e st)), Q (forL gd g b xs e st)
  | [], k, e, st, h0, hs, hd => by
    obtain ⟨h1, h2⟩ := hd e st h0
    unfold forL
    rw [if_pos h1]
    exact h2
  | x :: r, k, e, st, h0, hs, hd => by
    obtain ⟨h1, e1, h2, h3⟩ := hs 0 x e st rfl h0
    unfold forL
    rw [if_pos h1, h2]
    have next : ∀ {e2 : Env} {s2 : Store}, P (k + 0 + 1) e2 s2 → Q (forL gd g b r e2 s2) := fun {e2 s2} p =>
      forL_wp Q P (k := k + 1) p (fun i y e st hy q => by
        have := hs (i + 1) y e st (by simpa using hy) (by rw [show k + (i + 1) = k + 1 + i by omega]; exact q)
        rwa [show k + (i + 1) + 1 = k + 1 + i + 1 by omega] at this) (fun e st q => hd e st (by rw [List.length_cons, show k + (r.length + 1) = k + 1 + r.length by omega]; exact q))
    simp only
    cases q : b e1 st with
    | nx e2 s2 => rw [q] at h3; exact next h3
    | ct e2 s2 => rw [q] at h3; exact next h3
    | bk e2 s2 => rw [q] at h3; exact h3
    | rt v s2 => rw [q] at h3; exact h3
    | er x e2 s2 => rw [q] at h3; exact h3
    | no => rw [q] at h3; exact h3
/-- a loop that runs to its end -/
theorem forL_inv {gd : List (Nat × PO)} {g : FG} {b : FS} (P : Nat → Env → Store → Prop) {xs : List PV} {e : Env} {st : Store} (h0 : P 0 e st)
    (hs : ∀ i x e st, xs[i]? = some x → P i e st → GdOk gd st ∧ ∃ e1, g x e = some e1 ∧ ∃ e2 s2, b e1 st = .nx e2 s2 ∧ P (i + 1) e2 s2)
    (hd : ∀ e st, P xs.length e st → GdOk gd st) : ∃ e' st', forL gd g b xs e st = .nx e' st' ∧ P xs.length e' st' := by
  refine forL_wp (fun r => ∃ e' st', r = .nx e' st' ∧ P xs.length e' st') P (k := 0) h0 (fun i x e st hx p => ?_) (fun e st p => ?_)
  · rw [Nat.zero_add] at p ⊢
    obtain ⟨h1, e1, h2, e2, s2, h3, h4⟩ := hs i x e st hx p
    refine ⟨h1, e1, h2, ?_⟩
    rw [h3]
    exact h4
  · rw [Nat.zero_add] at p
    exact ⟨hd e st p, e, st, rfl, p⟩
/-- the same, by a row of states -/
theorem forL_row {gd : List (Nat × PO)} {g : FG} {b : FS} (E : Nat → Env) (S : Nat → Store) : ∀ {xs : List PV} {k : Nat},
    (∀ i x, xs[i]? = some x → GdOk gd (S (k + i)) ∧ ∃ e1, g x (E (k + i)) = some e1 ∧ b e1 (S (k + i)) = .nx (E (k + i + 1)) (S (k + i + 1))) → GdOk gd (S (k + xs.length)) →
    forL gd g b xs (E k) (S k) = .nx (E (k + xs.length)) (S (k + xs.length))
  | [], k, _, hd => by
    unfold forL
    rw [if_pos (show GdOk gd (S k) from hd)]
    rfl
  | x :: r, k, hs, hd => by
    obtain ⟨h1, e1, h2, h3⟩ := hs 0 x rfl
    unfold forL
    rw [if_pos (show GdOk gd (S k) from h1), show g x (E k) = some e1 from h2]
    simp only
    rw [show b e1 (S k) = _ from h3]
    simp only
    have := forL_row (xs := r) (k := k + 1) E S (fun i y hy => by
      have := hs (i + 1) y (by simpa using hy)
      rwa [show k + (i + 1) = k + 1 + i by omega] at this) (by rw [show k + 1 + r.length = k + (r.length + 1) by omega]; exact hd)
    rw [List.length_cons, show k + (r.length + 1) = k + 1 + r.length by omega]
    exact this
/-! ### comprehensions -/
theorem lcL_map {α : Type} {gd : List (Nat × PO)} {g : FG} {ft : FT} {fe : FE} {e0 : Env} {s1 : Store} (f : α → PV) (p : α → Bool) (φ : α → PV) (hg : ∀ acc, GdOk gd (s1 ++ [.lst acc])) : ∀ {xs : List α} {acc : List PV},
    (∀ x ∈ xs, ∃ e1, g (f x) e0 = some e1 ∧ ∀ acc, ft e1 (s1 ++ [.lst acc]) = .ok (p x) (s1 ++ [.lst acc]) ∧ (p x = true → fe e1 (s1 ++ [.lst acc]) = .ok (φ x) (s1 ++ [.lst acc]))) → acc.length + xs.length ≤ sizeLine →
    lcL gd g ft fe s1.length e0 (xs.map f) (s1 ++ [.lst acc]) = some (.ref s1.length, s1 ++ [.lst (acc ++ (xs.filter p).map φ)])
  | [], acc, _, _ => by
    rw [List.map_nil]
    unfold lcL
    rw [if_pos (hg acc)]
    simp
  | x :: r, acc, hx, hl => by
    obtain ⟨e1, h1, h2⟩ := hx x List.mem_cons_self
    obtain ⟨h3, h4⟩ := h2 acc
    rw [List.map_cons]
    unfold lcL
    rw [if_pos (hg acc), h1]
    simp only
    rw [h3]
    rw [List.length_cons] at hl
    cases hp : p x with
    | false =>
      simp only
      rw [lcL_map f p φ hg (fun y hy => hx y (List.mem_cons_of_mem _ hy)) (by omega), List.filter_cons, hp]
      rfl
    | true =>
      simp only
      rw [h4 hp]
      simp only
      rw [getS0]
      simp only [List.getElem?_cons_zero]
      rw [if_pos (by omega), setS0_app]
      simp only [List.set_cons_zero]
      rw [lcL_map f p φ hg (fun y hy => hx y (List.mem_cons_of_mem _ hy)) (by rw [List.length_append, List.length_singleton]; omega), List.filter_cons, hp]
      simp [List.append_assoc]
theorem lcF_filter {α : Type} {fi : FI} {own : List Nat} {g : FG} {ft : FT} {fe : FE} {e : Env} {st s1 : Store} {gd : List (Nat × PO)} (as : List α) (f : α → PV) (p : α → Bool) (φ : α → PV) (hi : fi e st = .ok ⟨as.map f, gd⟩ s1) (hg : ∀ acc, GdOk gd (s1 ++ [.lst acc])) (hl : as.length ≤ sizeLine)
    (hx : ∀ x ∈ as, ∃ e1, g (f x) (wipeE e own) = some e1 ∧ ∀ acc, ft e1 (s1 ++ [.lst acc]) = .ok (p x) (s1 ++ [.lst acc]) ∧ (p x = true → fe e1 (s1 ++ [.lst acc]) = .ok (φ x) (s1 ++ [.lst acc]))) :
    lcF fi own g ft fe e st = .ok (.ref s1.length) (s1 ++ [.lst ((as.filter p).map φ)]) := by
  unfold lcF
  rw [hi, bind_ok, lcL_map f p φ hg hx (by rw [List.length_nil]; omega)]
  rfl
theorem lcF_map {α : Type} {fi : FI} {own : List Nat} {g : FG} {fe : FE} {e : Env} {st s1 : Store} {gd : List (Nat × PO)} (as : List α) (f : α → PV) (φ : α → PV) (hi : fi e st = .ok ⟨as.map f, gd⟩ s1) (hg : ∀ acc, GdOk gd (s1 ++ [.lst acc])) (hl : as.length ≤ sizeLine)
    (hx : ∀ x ∈ as, ∃ e1, g (f x) (wipeE e own) = some e1 ∧ ∀ acc, fe e1 (s1 ++ [.lst acc]) = .ok (φ x) (s1 ++ [.lst acc])) :
    lcF fi own g yesT fe e st = .ok (.ref s1.length) (s1 ++ [.lst (as.map φ)]) := by
  rw [lcF_filter as f (fun _ => true) φ hi hg hl fun x h => by
    obtain ⟨e1, h1, h2⟩ := hx x h
    exact ⟨e1, h1, fun acc => ⟨rfl, fun _ => h2 acc⟩⟩]
  rw [List.filter_eq_self.mpr fun _ _ => rfl]
/-! ### while -/
theorem whL_wp {c : FT} {b : FS} (Q : RS → Prop) (P : Env → Store → Prop) (μ : Env → Store → Nat) : ∀ (n : Nat) {e : Env} {st : Store} (h0 : P e st) (hn : μ e st < n)
    (hs : ∀ e st, P e st → ∃ k s1, c e st = .ok k s1 ∧ if k = true then (match b e s1 with
      | .nx e2 s2 => P e2 s2 ∧ μ e2 s2 < μ e st
      | .ct e2 s2 => P e2 s2 ∧ μ e2 s2 < μ e st
      | .bk e2 s2 => Q (.nx e2 s2)
      | r => Q r) else Q (.nx e s1)), Q (whL c b n e st)
  | 0, e, st, h0, hn, hs => absurd hn (Nat.not_lt_zero _)
  | n + 1, e, st, h0, hn, hs => by
    obtain ⟨k, s1, h1, h2⟩ := hs e st h0
    unfold whL
    rw [h1, toS_ok]
    cases k with
    | false => rw [if_neg Bool.false_ne_true] at h2 ⊢; exact h2
    | true =>
      rw [if_pos rfl] at h2 ⊢
      cases q : b e s1 with
      | nx e2 s2 => rw [q] at h2; exact whL_wp Q P μ n h2.1 (by have := h2.2; omega) hs
      | ct e2 s2 => rw [q] at h2; exact whL_wp Q P μ n h2.1 (by have := h2.2; omega) hs
      | bk e2 s2 => rw [q] at h2; exact h2
      | rt v s2 => rw [q] at h2; exact h2
      | er x e2 s2 => rw [q] at h2; exact h2
      | no => rw [q] at h2; exact h2
theorem whS_wp {c : FT} {b : FS} (Q : RS → Prop) (P : Env → Store → Prop) (μ : Env → Store → Nat) {e : Env} {st : Store} (h0 : P e st) (hn : μ e st < 1000000)
    (hs : ∀ e st, P e st → ∃ k s1, c e st = .ok k s1 ∧ if k = true then (match b e s1 with
      | .nx e2 s2 => P e2 s2 ∧ μ e2 s2 < μ e st
      | .ct e2 s2 => P e2 s2 ∧ μ e2 s2 < μ e st
      | .bk e2 s2 => Q (.nx e2 s2)
      | r => Q r) else Q (.nx e s1)) : Q (whS c b e st) := by
  unfold whS
  exact whL_wp Q P μ FUEL h0 (by rw [FUEL_eq]; exact hn) hs
/-! ### sizes -/
theorem log2_lt {n k : Nat} (h : n < 2 ^ (k + 1)) : n.log2 ≤ k := by
  by_cases h0 : n = 0
  · subst h0; simp
  · have := (Nat.log2_lt h0).mpr h
    omega
theorem mulOk_of {i j : Int} (hi : i.natAbs < 2 ^ 250) (hj : j.natAbs < 2 ^ 250) : mulOk i j = true := by
  have h1 := log2_lt (k := 249) hi
  have h2 := log2_lt (k := 249) hj
  exact decide_eq_true (by omega)
theorem sl (n : Nat) (h : n ≤ 16777216) : n ≤ sizeLine := by rw [sizeLine_eq]; exact h
end
end FL
end
section
set_option linter.all false
set_option maxRecDepth 100000
namespace FL
open PySem PySem.Spec PyProof.Rows L2
noncomputable section
/-! ## texts as lists of signs -/
def S (l : List Nat) : Str := ⟨l.toArray⟩
theorem S_cps (l : List Nat) : (S l).cps.toList = l := by simp [S]
theorem S_len (l : List Nat) : (S l).length = l.length := by simp [S, Str.length]
theorem S_of (x : Str) : x = S x.cps.toList := by cases x; simp [S]
theorem S_app (a b : List Nat) : S a ++ S b = S (a ++ b) := by
  show (⟨_⟩ : Str) = _
  simp [S]
theorem S_inj {a b : List Nat} : S a = S b ↔ a = b := ⟨fun h => by have := congrArg (fun x : Str => x.cps.toList) h; simpa [S] using this, fun h => by rw [h]⟩
theorem S_one (c : Nat) : (⟨#[c]⟩ : Str) = S [c] := rfl
theorem S_cut (l : List Nat) (lo hi : Option Int) : cutS (S l) lo hi = S ((l.drop (HT.sIx l.length 0 lo)).take (HT.sIx l.length l.length hi - HT.sIx l.length 0 lo)) := by
  unfold cutS
  rw [S_cps, S_len]
  rfl
theorem sIx_some {n d : Nat} {i : Int} (h : 0 ≤ i) : HT.sIx n d (some i) = min i.toNat n := by
  show (if i < 0 then (i + (n : Int)).toNat else min i.toNat n) = _
  rw [if_neg (by omega)]
theorem foldl_app (x : List Nat) : ∀ (n : Nat) (acc : Array Nat), (List.replicate n x.toArray).foldl (· ++ ·) acc = acc ++ (List.replicate n x).flatten.toArray
  | 0, acc => by simp
  | n + 1, acc => by
    rw [List.replicate_succ, List.foldl_cons, foldl_app x n, List.replicate_succ, List.flatten_cons, Array.append_assoc]
    simp
theorem S_mul (l : List Nat) (n : Int) (h : 0 ≤ n) : Txt.mul (S l) n = S (List.replicate n.toNat l).flatten := by
  unfold Txt.mul
  by_cases h1 : n < 1
  · rw [if_pos h1]
    have : n.toNat = 0 := by omega
    rw [this]
    rfl
  · rw [if_neg h1]
    by_cases h2 : (n == 1 || (S l).length == 0) = true
    · rw [if_pos h2]
      rcases Bool.or_eq_true_iff.mp h2 with h3 | h3
      · have : n = 1 := by simpa using h3
        subst this
        simp
      · have h4 : l = [] := by
          have : (S l).length = 0 := by simpa using h3
          rw [S_len] at this
          exact List.length_eq_zero_iff.mp this
        subst h4
        simp
    · rw [if_neg h2]
      show (⟨_⟩ : Str) = _
      have := foldl_app l n.toNat #[]
      unfold S
      rw [this]
      simp
/-- an item of a list by its place -/
theorem atI_nat' {α : Type} {xs : List α} {i : Int} {x : α} (h0 : 0 ≤ i) (h : xs[i.toNat]? = some x) : atI xs i = some x := by
  have hi : i.toNat < xs.length := (List.getElem?_eq_some_iff.mp h).1
  unfold atI ixN
  rw [if_pos h0, if_pos (by omega)]
  exact h
theorem atI_lt {α : Type} {xs : List α} {i : Int} (h0 : 0 ≤ i) (h : i < xs.length) : atI xs i = some (xs[i.toNat]'(by omega)) := atI_nat' h0 (List.getElem?_eq_getElem (by omega))
theorem atI_getD {α : Type} {xs : List α} {i : Int} {d : α} (h0 : 0 ≤ i) (h : i < xs.length) : atI xs i = some (xs.getD i.toNat d) := by
  rw [atI_lt h0 h]
  simp [List.getD_eq_getElem?_getD, List.getElem?_eq_getElem (show i.toNat < xs.length by omega)]
theorem at0 {α : Type} {a : α} {r : List α} : atI (a :: r) 0 = some a := atI_nat' (by decide) rfl
theorem at1 {α : Type} {a b : α} {r : List α} : atI (a :: b :: r) 1 = some b := atI_nat' (by decide) rfl
theorem at2 {α : Type} {a b c : α} {r : List α} : atI (a :: b :: c :: r) 2 = some c := atI_nat' (by decide) rfl
theorem at3 {α : Type} {a b c d : α} {r : List α} : atI (a :: b :: c :: d :: r) 3 = some d := atI_nat' (by decide) rfl
theorem at4 {α : Type} {a b c d e : α} {r : List α} : atI (a :: b :: c :: d :: e :: r) 4 = some e := atI_nat' (by decide) rfl
theorem at5 {α : Type} {a b c d e f : α} {r : List α} : atI (a :: b :: c :: d :: e :: f :: r) 5 = some f := atI_nat' (by decide) rfl
theorem letters_eq : ("abcdefghijklmnopqrstuvwxyz" : Str) = S ((List.range 26).map (· + 97)) := by decide +kernel
theorem letters_at {i : Int} (h0 : 0 ≤ i) (h : i < 26) : atI ((List.range 26).map (· + 97)) i = some (97 + i.toNat) := by
  apply atI_nat' h0
  rw [List.getElem?_map, List.getElem?_range (by omega)]
  simp [Nat.add_comm]
/-- tags -/
theorem t1 : decide (("num" : Str) = "of") = false := by decide +kernel
theorem t2 : decide (("name" : Str) = "of") = false := by decide +kernel
theorem t3 : decide (("any" : Str) = "of") = false := by decide +kernel
theorem t4 : decide (("of" : Str) = "of") = true := by decide +kernel
theorem t5 : decide (("num" : Str) = "name") = false := by decide +kernel
theorem t6 : decide (("num" : Str) = "any") = false := by decide +kernel
theorem t7 : decide (("num" : Str) = "num") = true := by decide +kernel
theorem t8 : decide (("name" : Str) = "num") = false := by decide +kernel
theorem t9 : decide (("name" : Str) = "any") = false := by decide +kernel
theorem t10 : decide (("name" : Str) = "name") = true := by decide +kernel
theorem t11 : decide (("any" : Str) = "num") = false := by decide +kernel
theorem t12 : decide (("any" : Str) = "name") = false := by decide +kernel
theorem t13 : decide (("any" : Str) = "any") = true := by decide +kernel
theorem t14 : decide (("of" : Str) = "num") = false := by decide +kernel
theorem t15 : decide (("of" : Str) = "name") = false := by decide +kernel
theorem t16 : decide (("of" : Str) = "any") = false := by decide +kernel
/-- isinstance -/
theorem kb1 : kitB "int" "int" = some true := by decide +kernel
theorem kb2 : kitB "int" "bool" = some false := by decide +kernel
theorem kb3 : kitB "bool" "int" = some true := by decide +kernel
theorem kb4 : kitB "str" "str" = some true := by decide +kernel
theorem kb5 : kitB "list" "list" = some true := by decide +kernel
theorem kb6 : kitB "tuple" "tuple" = some true := by decide +kernel
theorem kb7 : kitB "str" "int" = some false := by decide +kernel
theorem kb8 : kitB "tuple" "int" = some false := by decide +kernel
theorem kb9 : kitB "dict" "dict" = some true := by decide +kernel
theorem kb10 : kitB "bool" "bool" = some true := by decide +kernel
theorem kb11 : kitB "NoneType" "int" = some false := by decide +kernel
/-- ints and texts of a list -/
theorem intsOf_map (ns : List Int) : intsOf (ns.map PV.int) = some ns := by
  induction ns with
  | nil => rfl
  | cons n r ih => simp [intsOf, ih]
theorem strsOf_map (ns : List Str) : strsOf (ns.map PV.str) = some ns := by
  induction ns with
  | nil => rfl
  | cons n r ih => simp [strsOf, ih]
theorem blsOf_map (ns : List Bool) : blsOf (ns.map PV.bl) = some ns := by
  induction ns with
  | nil => rfl
  | cons n r ih => simp [blsOf, ih]
end
end FL
end
section
set_option linter.all false
set_option maxRecDepth 100000
namespace FL
open PySem PySem.Spec PyProof.Rows L2
noncomputable section
/-! ## bits -/
def andV (x y : PV) (st : Store) : O PV := match x, y with
  | .int i, .int j => some (.int (Builtin.bitAnd i j), st)
  | _, _ => none
def borV (x y : PV) (st : Store) : O PV := match x, y with
  | .int i, .int j => some (.int (Builtin.bitOr i j), st)
  | _, _ => none
open Classical in
def shlV (x y : PV) (st : Store) : O PV := match x, y with
  | .int i, .int j => if CShl i j then some (.int (i * 2 ^ j.toNat), st) else none
  | _, _ => none
def shrV (x y : PV) (st : Store) : O PV := match x, y with
  | .int i, .int j => if 0 ≤ j then some (.int (i / 2 ^ j.toNat), st) else none
  | _, _ => none
section
variable {X : Cx} {W : WX} {ca : String → Addr}
theorem of_and : OpF X ca (binaryOp .BitAnd) andV := by
  refine ⟨_, op_and, fun H m st x y x' y' Q s rx ry p => ?_⟩
  cases rx with
  | int i => cases ry with
    | int j => exact ⟨i, j, rfl, rfl, p.val s (.int _)⟩
    | _ => exact p.elim
  | _ => exact p.elim
theorem of_bor : OpF X ca (binaryOp .BitOr) borV := by
  refine ⟨_, op_or, fun H m st x y x' y' Q s rx ry p => ?_⟩
  cases rx with
  | int i => cases ry with
    | int j => exact ⟨i, j, rfl, rfl, p.val s (.int _)⟩
    | _ => exact p.elim
  | _ => exact p.elim
theorem of_shl : OpF X ca (binaryOp .LShift) shlV := by
  refine ⟨_, op_shlW, fun H m st x y x' y' Q s rx ry p => ?_⟩
  cases rx with
  | int i => cases ry with
    | int j =>
      simp only [shlV] at p
      split at p
      · rename_i h
        exact ⟨i, j, rfl, rfl, h, p.val s (.int _)⟩
      · exact p.elim
    | _ => exact p.elim
  | _ => exact p.elim
theorem of_shr : OpF X ca (binaryOp .RShift) shrV := by
  refine ⟨_, op_shrN, fun H m st x y x' y' Q s rx ry p => ?_⟩
  cases rx with
  | int i => cases ry with
    | int j =>
      simp only [shrV] at p
      split at p
      · rename_i h
        obtain ⟨k, rfl⟩ := Int.eq_ofNat_of_zero_le h
        exact ⟨i, k, rfl, rfl, p.val s (.int _)⟩
      · exact p.elim
    | _ => exact p.elim
  | _ => exact p.elim
theorem mulOk_b {i j : Int} {a : Nat} (hi : Builtin.Int.intBits i ≤ 1048576) (hj : j.natAbs < 2 ^ a) (ha : a < 1000000) : mulOk i j = true := by
  refine decide_eq_true ?_
  have h1 : i.natAbs.log2 ≤ 1048576 := by
    unfold Builtin.Int.intBits at hi
    split at hi
    · rename_i h
      have : i = 0 := by simpa using h
      subst this
      simp
    · omega
  have h2 : j.natAbs.log2 ≤ a := by
    by_cases h0 : j.natAbs = 0
    · rw [h0]; simp
    · have := (Nat.log2_lt h0).mpr hj
      omega
  omega
/-! ## the law's own call, where the cells' bits are few -/
def spTopB (K : PySem.W.Frag) : Sp := fun vs H Q _ => ∃ (a : Addr) (ns : List Int), vs = [.ref a] ∧ ns.length ≤ 63 ∧ (∀ z ∈ ns, Builtin.Int.intBits z ≤ 1048576) ∧ Only H ∧ SqL K H a (ns.map V.int) ∧ ∀ H', Q (.bl true) H'
theorem top_okB {P : Program} {w : World} {K : PySem.W.Frag} {mg : Str → Option Value} {base : Heap} {ca : String → Addr} {k : Nat} {f : Addr} {fd : FuncData} {x : Str} {F : Fn} (C : Cal P w K mg base ca k f fd [x] F) (h : ∀ ns : List Int, ns.length ≤ 63 → (∀ z ∈ ns, Builtin.Int.intBits z ≤ 1048576) → ∃ st, F [.frz (ns.map PV.int)] [] = .ok (.bl true) st) : FnOk P w K mg base (L2.CX P w) k f fd [x] (spTopB K) := by
  refine C.ok.imp fun vs H Q E hh => ?_
  obtain ⟨a, ns, rfl, hl, hz, hO, hS, q⟩ := hh
  obtain ⟨st, e⟩ := h ns hl hz
  refine ⟨[], [], [.frz (ns.map PV.int)], ⟨rfl, List.nodup_nil, fun n a o z => by cases z⟩, .cons (.frz ?_ (VRs.ints ns)) .nil, rfl, ?_⟩
  · rcases hS with (hS | hS) | hS
    · rcases hO a with z | ⟨o, xs, z⟩
      · rw [z] at hS; cases hS
      · rw [z] at hS; cases hS
    · exact .inl hS
    · exact .inr hS
  · rw [e]
    intro m' b H' _ _ _ r
    cases r
    exact q H'
/-! ## list(range(..)) -/
def lrgF (fa : FE) : FE := fun e st => (fa e st).bind fun x s1 => match x with
  | .int n => if 0 ≤ n ∧ n ≤ 16777216 then .ok (.ref s1.length) (s1 ++ [.lst (intL 0 1 n.toNat)]) else .no
  | _ => .no
theorem vrs_intL {K : PySem.W.Frag} {H : Hp} {m : List Addr} (n : Nat) : VRs K ca H m (intL 0 1 n) (rgV 0 (n : Int)) := by
  have e : ∀ l : List Nat, VRs K ca H m (l.map fun i : Nat => PV.int (0 + (i : Nat) * 1)) (l.map fun i : Nat => V.int (0 + (i : Nat))) := fun l => by
    induction l with
    | nil => exact .nil
    | cons a r ih =>
      refine .cons ?_ ih
      show VR K ca H m (.int (0 + (a : Int) * 1)) (.int (0 + (a : Int)))
      rw [Int.mul_one]
      exact .int _
  unfold intL rgV
  rw [show ((n : Int) - 0).toNat = n by omega]
  exact e _
theorem je_listRg {a : Expr} {p p2 pos pos2 : Pos} {fa : FE} (hl : X.mg "list" = none) (hm : X.mg "range" = none) (ha : JE X W ca a fa) (hc : X.calm = true := by rfl) (hg : Gl X "list" := by rfl) (hg2 : Gl X "range" := by rfl)
    (na : starEach [a] X.env = (false, eval a X.env) :: starEach [] X.env := by rfl) (na2 : starEach [.Call (.Name "range" p2) [a] [] pos2] X.env = (false, eval (.Call (.Name "range" p2) [a] [] pos2) X.env) :: starEach [] X.env := by rfl) :
    JE X W ca (.Call (.Name "list" p) [.Call (.Name "range" p2) [a] [] pos2] [] pos) (lrgF fa) := by
  obtain ⟨t, pa, r⟩ := ha.ex
  refine ⟨_, pe_listRg hc hg hl (prg_1 hg2 hm pa na) na2, fun σ H m env st Q s e h => ?_⟩
  refine r σ H m env st _ s e (Post.bind h fun x st1 m1 x' H1 p1 k1 s1 r1 h1 => ?_)
  cases r1 with
  | int n =>
    simp only at h1
    split at h1
    · rename_i hn
      refine ⟨n, rfl, RgOk.of_le (Int.le_refl 0) (by omega) (by omega) hn.1, fun q hq => ?_⟩
      obtain ⟨k, rfl⟩ := Int.eq_ofNat_of_zero_le hn.1
      obtain ⟨pD, kD, sD, rD⟩ := upd_l (ca := ca) s1 hq (vrs_intL (K := X.K) (ca := ca) (H := H1) (m := m1) k)
      exact h1 _ _ _ pD kD sD rD
    · exact h1.elim
  | _ => exact h1.elim
/-! ## instances -/
theorem KR.look {K : PySem.W.Frag} {H : Hp} {m : List Addr} {f : Str} : ∀ {fs : List (Str × PV)} {gs : List (Str × V)}, KR K ca H m fs gs → (fs.lookup f = none → gs.lookup f = none) ∧ ∀ v, fs.lookup f = some v → ∃ w, gs.lookup f = some w ∧ VR K ca H m v w
  | _, _, .nil => ⟨fun _ => rfl, fun v h => by cases h⟩
  | (k, x) :: r, (k', y) :: q, .cons h t => by
    obtain ⟨e, rv⟩ := h
    simp only at e rv
    subst e
    have ih := KR.look (f := f) t
    simp only [List.lookup]
    cases c : f == k with
    | true => exact ⟨fun z => (by cases z), fun v z => ⟨y, rfl, by cases z; exact rv⟩⟩
    | false => exact ih
def putP (f : Str) (v : PV) : List (Str × PV) → List (Str × PV)
  | [] => [(f, v)]
  | (g, x) :: r => if g = f then (g, v) :: r else (g, x) :: putP f v r
theorem KR.put {K : PySem.W.Frag} {H : Hp} {m : List Addr} {f : Str} {v : PV} {w : V} (rv : VR K ca H m v w) : ∀ {fs : List (Str × PV)} {gs : List (Str × V)}, KR K ca H m fs gs → KR K ca H m (putP f v fs) (putF f w gs)
  | _, _, .nil => .cons ⟨rfl, rv⟩ .nil
  | (k, x) :: r, (k', y) :: q, .cons h t => by
    obtain ⟨e, rx⟩ := h
    simp only at e rx
    subst e
    unfold putP putF
    by_cases c : k = f
    · rw [if_pos c, if_pos c]
      exact .cons ⟨rfl, rv⟩ t
    · rw [if_neg c, if_neg c]
      exact .cons ⟨rfl, rx⟩ (KR.put rv t)
theorem KR.len {K : PySem.W.Frag} {H : Hp} {m : List Addr} {fs : List (Str × PV)} {gs : List (Str × V)} (h : KR K ca H m fs gs) : fs.length = gs.length := Paired.length h
/-- o.f = v -/
def sfldS (c : String) (f : Str) (fv fo : FE) : FS := fun e st => (fv e st).toS e fun v s1 => (fo e s1).toS e fun o s2 => match o with
  | .ref n => (match s2[n]? with
    | some (.ins c' fs) => if c' = c ∧ fs.length < 1000 then .nx e (s2.set n (.ins c' (putP f v fs))) else .no
    | _ => .no)
  | _ => .no
theorem js_fld {o value : Expr} {f : Str} {c : String} {pos pos' : Pos} {fo fv : FE} (hc : Cls X.K (ca c)) (hn : NoAttr X.K (ca c) f) (hv : JE X W ca value fv) (ho : JE X W ca o fo) (hs : swapsWith value (some (.Attribute o f pos')) pos.line X.env = pure false) :
    JS X W ca (.Assign [.Attribute o f pos'] value pos) (sfldS c f fv fo) := by
  obtain ⟨tv, pv, rv⟩ := hv.ex
  obtain ⟨to', po', ro⟩ := ho.ex
  refine ⟨_, ps_fld po' pv hs, fun σ H m env st D s e h => ?_⟩
  refine rv σ H m env st _ s e (Post.toS h e fun v st1 m1 v' H1 p1 k1 s1 r1 h1 => ?_)
  refine ro σ H1 m1 env st1 _ s1 (e.mono p1 k1) (Post.toS h1 (e.mono p1 k1) fun x st2 m2 x' H2 p2 k2 s2 r2 h2 => ?_)
  cases r2 with
  | ref hn' =>
    rename_i n a
    simp only at h2
    split at h2
    · rename_i c' fs hx
      split at h2
      · rename_i hcc
        obtain ⟨rfl, hl⟩ := hcc
        obtain ⟨dx, gs, ea, rg⟩ := s2.at hx hn'
        have hk := Keep.upd (K := X.K) (o := .ins (ca c') dx (putF f v' gs)) ea (fun _ z => nomatch z) (fun _ _ z => nomatch z)
        refine ⟨a, _, dx, gs, rfl, ea, hc, hn, by rw [← rg.len]; exact hl, ?_⟩
        refine h2 m2 σ _ (List.prefix_refl _) hk (s2.set hn' ea (fun _ z => nomatch z) (fun _ _ z => nomatch z) ⟨dx, _, upd_same, KR.put ((r1.mono p2 k2).mono (List.prefix_refl _) hk) (rg.mono (List.prefix_refl _) hk)⟩) ((e.mono p1 k1).mono p2 (k2.trans hk))
      · exact h2.elim
    · exact h2.elim
  | _ => exact h2.elim
/-- o.m(..) -/
def methF (c : String) (m : Str) (n : Nat) (F : Fn) (ds : List PV) (fo : FE) (fa : FA) : FE := fun e st => (fo e st).bind fun o s1 => match o with
  | .ref i => (match s1[i]? with
    | some (.ins c' fs) => if c' = c ∧ fs.lookup m = none then (fa e s1).bind fun xs s2 => if (o :: (xs ++ ds)).length = n then F (o :: (xs ++ ds)) s2 else .no else .no
    | _ => .no)
  | _ => .no
def tMethSD (C : Addr) (m : Str) (sp : Sp) (dvs : List V) (E : L2.St → XK) (ta : TE) (t : TA) : TE := fun σ H Q => ta σ H fun x H1 => ∃ a dx fs, x = .ref a ∧ H1 a = some (.ins C dx fs) ∧ fs.lookup m = none ∧ t σ H1 fun vs H2 => sp (x :: (vs ++ dvs)) H2 Q (E σ)
section
variable {CX : CXT} {k : Nat} {f C : Addr} {fd : FuncData} {ps : List Str} {sp : Sp} {dvs : List V} {ds : List Value} {E : L2.St → XK} {m : Str} {p pos apos : Pos} {e o : Expr} {es : List Expr} {ta : TE} {t : TA}
theorem pe_methSD {pl : Sem Bool} (he : PE X o ta) (c : Cls X.K C) (hm : Meth X.K C m f) (F : FnOk X.prog X.w X.K X.mg X.base CX k f fd ps sp) (hr : Room k X.A) (hb : Binds X.K fd ps ds) (hd : Vals dvs ds) (hx : ∀ σ, PassesAt CX X σ (E σ)) (ha : PA X (e :: es) t)
    (hst : starEach (e :: es) X.env = (false, eval e X.env) :: starEach es X.env) (hpl : (backTo pos (starEach es X.env)).any (·.1) = false)
    (ht : eval (.Call (.Attribute o m apos) (e :: es) [] pos) X.env = (do
      let ov ← eval o X.env
      standAt apos.atName
      let (f, first) ← holding [ov] (getMethod ov m pl)
      callWith pos f first (backTo pos (starEach (e :: es) X.env)) (backToKw pos (keywordEach [] X.env)))) :
    PE X (.Call (.Attribute o m apos) (e :: es) [] pos) (tMethSD C m sp dvs E ta t) := by
  refine ⟨fun pins s σ H Q I h => ?_⟩
  refine PySem.W.methodCall_KW (pl := pl) (thn (he.run pins s σ H _ I h) fun u s1 ⟨x, H1, I1, rx, a, dx, fs, ex, ea, l, q⟩ => ?_) ht
  subst ex
  obtain rfl : u = Value.ref a := rx
  refine getmeth_ok I1 ea c hm l ?_
  refine PySem.W.callWith_K (first := [.ref a]) (h₀ := X.base) I.ok.mod.kin hm.kp (thn (ha.run pos pins s1 σ H1 _ I1 q) fun us s2 ⟨vs, H2, I2, r, q2⟩ => ⟨I2.kIn, ?_⟩) hst hpl
  exact run_fnSD (us := .ref a :: us) (vs := .ref a :: vs) F hr hb hd (hx σ) I2 (.cons rfl r) q2
theorem pe_methSD0 {pl : Sem Bool} (he : PE X o ta) (c : Cls X.K C) (hm : Meth X.K C m f) (F : FnOk X.prog X.w X.K X.mg X.base CX k f fd ps sp) (hr : Room k X.A) (hb : Binds X.K fd ps ds) (hd : Vals dvs ds) (hx : ∀ σ, PassesAt CX X σ (E σ))
    (ht : eval (.Call (.Attribute o m apos) [] [] pos) X.env = (do
      let ov ← eval o X.env
      standAt apos.atName
      let (f, first) ← holding [ov] (getMethod ov m pl)
      callWith pos f first (backTo pos (starEach [] X.env)) (backToKw pos (keywordEach [] X.env)))) :
    PE X (.Call (.Attribute o m apos) [] [] pos) (tMethSD C m sp dvs E ta tNil) := by
  refine ⟨fun pins s σ H Q I h => ?_⟩
  refine PySem.W.methodCall_KW (pl := pl) (thn (he.run pins s σ H _ I h) fun u s1 ⟨x, H1, I1, rx, a, dx, fs, ex, ea, l, q⟩ => ?_) ht
  subst ex
  obtain rfl : u = Value.ref a := rx
  refine getmeth_ok I1 ea c hm l ?_
  exact PySem.W.callWith_K0 (first := [.ref a]) I1.kIn hm.kp (run_fnSD (us := [.ref a]) (vs := [.ref a]) F hr hb hd (hx σ) I1 (.cons rfl .nil) q)
end
theorem je_meth {k n : Nat} {f : Addr} {fd : FuncData} {ps : List Str} {F : Fn} {ds : List PV} {c : String} {m : Str} {pos apos : Pos} {o e : Expr} {es : List Expr} {fo : FE} {fa : FA} {pl : Sem Bool} (tk : Takes X W) (hc : Cls X.K (ca c)) (hm : Meth X.K (ca c) m f) (C : Cal X.prog X.w X.K X.mg X.base ca k f fd ps F) (b : Bnd X.K ca fd ps ds) (hr : Room k X.A)
    (ho : JE X W ca o fo) (ha : JA X W ca (e :: es) fa) (hn : ps.length = n := by rfl)
    (hst : starEach (e :: es) X.env = (false, eval e X.env) :: starEach es X.env := by rfl) (hpl : (backTo pos (starEach es X.env)).any (·.1) = false := by rfl)
    (ht : eval (.Call (.Attribute o m apos) (e :: es) [] pos) X.env = (do
      let ov ← eval o X.env
      standAt apos.atName
      let (f, first) ← holding [ov] (getMethod ov m pl)
      callWith pos f first (backTo pos (starEach (e :: es) X.env)) (backToKw pos (keywordEach [] X.env))) := by rfl) :
    JE X W ca (.Call (.Attribute o m apos) (e :: es) [] pos) (methF c m n F ds fo fa) := by
  subst hn
  obtain ⟨to', po', ro⟩ := ho.ex
  obtain ⟨t, pa, r⟩ := ha.ex
  obtain ⟨us, vs, hb, hd, rd⟩ := b.ex
  refine ⟨_, pe_methSD (E := WE W) (pl := pl) po' hc hm C.ok hr hb hd (passAt tk) pa hst hpl ht, fun σ H m0 env st Q s e h => ?_⟩
  refine ro σ H m0 env st _ s e (Post.bind h fun x st1 m1 x' H1 p1 k1 s1 r1 h1 => ?_)
  cases r1 with
  | ref hn' =>
    rename_i i a
    simp only at h1
    split at h1
    · rename_i c' fs hx
      split at h1
      · rename_i hcc
        obtain ⟨rfl, hl⟩ := hcc
        obtain ⟨dx, gs, ea, rg⟩ := s1.at hx hn'
        refine ⟨a, dx, gs, rfl, ea, rg.look.1 hl, r σ H1 m1 env st1 _ s1 (e.mono p1 k1) (Post.bind h1 fun xs st2 m2 xs' H2 p2 k2 s2 r2 h2 => ?_)⟩
        split at h2
        · rename_i hl2
          exact ⟨m2, st2, _, s2, .cons (.ref (pre_get p2 hn')) (r2.append (rd H2 m2)), hl2, h2⟩
        · exact h2.elim
      · exact h1.elim
    · exact h1.elim
  | _ => exact h1.elim
theorem je_meth0 {k n : Nat} {f : Addr} {fd : FuncData} {ps : List Str} {F : Fn} {ds : List PV} {c : String} {m : Str} {pos apos : Pos} {o : Expr} {fo : FE} {pl : Sem Bool} (tk : Takes X W) (hc : Cls X.K (ca c)) (hm : Meth X.K (ca c) m f) (C : Cal X.prog X.w X.K X.mg X.base ca k f fd ps F) (b : Bnd X.K ca fd ps ds) (hr : Room k X.A)
    (ho : JE X W ca o fo) (hn : ps.length = n := by rfl)
    (ht : eval (.Call (.Attribute o m apos) [] [] pos) X.env = (do
      let ov ← eval o X.env
      standAt apos.atName
      let (f, first) ← holding [ov] (getMethod ov m pl)
      callWith pos f first (backTo pos (starEach [] X.env)) (backToKw pos (keywordEach [] X.env))) := by rfl) :
    JE X W ca (.Call (.Attribute o m apos) [] [] pos) (methF c m n F ds fo nilA) := by
  subst hn
  obtain ⟨to', po', ro⟩ := ho.ex
  obtain ⟨us, vs, hb, hd, rd⟩ := b.ex
  refine ⟨_, pe_methSD0 (E := WE W) (pl := pl) po' hc hm C.ok hr hb hd (passAt tk) ht, fun σ H m0 env st Q s e h => ?_⟩
  refine ro σ H m0 env st _ s e (Post.bind h fun x st1 m1 x' H1 p1 k1 s1 r1 h1 => ?_)
  cases r1 with
  | ref hn' =>
    rename_i i a
    simp only at h1
    split at h1
    · rename_i c' fs hx
      split at h1
      · rename_i hcc
        obtain ⟨rfl, hl⟩ := hcc
        obtain ⟨dx, gs, ea, rg⟩ := s1.at hx hn'
        refine ⟨a, dx, gs, rfl, ea, rg.look.1 hl, ?_⟩
        simp only [nilA, R.bind, List.nil_append] at h1
        split at h1
        · rename_i hl2
          exact ⟨m1, st1, _, s1, .cons (.ref hn') (rd H1 m1), hl2, h1⟩
        · exact h1.elim
      · exact h1.elim
    · exact h1.elim
  | _ => exact h1.elim
/-- C(..): its __init__ lets nothing out -/
def makeF (c : String) (n : Nat) (F : Fn) (fa : FA) : FE := fun e st => (fa e st).bind fun xs s1 => if xs.length + 1 = n then (match F (.ref s1.length :: xs) (s1 ++ [.ins c []]) with
  | .ok .non s2 => .ok (.ref s1.length) s2
  | _ => .no) else .no
theorem passes_none {P : Program} {w : World} : Passes (L2.CX P w) X (fun _ _ _ => False) := fun _ _ _ _ _ _ _ c => by
  obtain ⟨_, _, _, _, _, _, _, _, _, _, _, _, z⟩ := c
  exact z.elim
theorem je_make {k n : Nat} {f : Addr} {fd : FuncData} {ps : List Str} {F : Fn} {c : String} {x : Str} {p pos : Pos} {e : Expr} {es : List Expr} {fa : FA} (M : Mk X.K (ca c) f) (C : Cal X.prog X.w X.K X.mg X.base ca k f fd ps F) (b : Bnd X.K ca fd ps []) (hr : Room (k + 1) X.A) (hm : X.mg x = some (.ref (ca c)))
    (ha : JA X W ca (e :: es) fa) (hn : ps.length = n := by rfl) (hg : Gl X x := by rfl) (hdb : (x == ("__debug__" : Str)) = false := by decide) (he : starEach (e :: es) X.env = (false, eval e X.env) :: starEach es X.env := by rfl) (hpl : (backTo pos (starEach es X.env)).any (·.1) = false := by rfl) :
    JE X W ca (.Call (.Name x p) (e :: es) [] pos) (makeF c n F fa) := by
  subst hn
  obtain ⟨t, pa, r⟩ := ha.ex
  obtain ⟨us, vs, hb, hd, rd⟩ := b.ex
  refine ⟨_, pe_make (E := fun _ _ _ => False) M C.ok hr hg hm hb hd passes_none pa hdb he hpl, fun σ H m0 env st Q s e h => ?_⟩
  refine r σ H m0 env st _ s e (Post.bind h fun xs st1 m1 xs' H1 p1 k1 s1 r1 h1 => ?_)
  intro a dx ea edx ne
  split at h1
  · rename_i hl
    have kx := Keep.new (K := X.K) (o := .own a) edx
    have sx : SR X.K ca (upd H1 dx (.own a)) m1 st1 := s1.skip edx
    have ea' : (upd H1 dx (.own a)) a = none := by rw [upd_ne fun z => ne z.symm]; exact ea
    have ka := Keep.new (K := X.K) (o := .ins (ca c) dx []) ea'
    have sa : SR X.K ca (upd (upd H1 dx (.own a)) a (.ins (ca c) dx [])) (m1 ++ [a]) (st1 ++ [.ins c []]) := sx.new ea' ⟨dx, [], upd_same, .nil⟩
    have rn : ∀ {Hx : Hp}, VR X.K ca Hx (m1 ++ [a]) (.ref st1.length) (.ref a) := fun {Hx} => .ref (by rw [← s1.len, List.getElem?_append_right (Nat.le_refl _), Nat.sub_self]; rfl)
    have rds := rd (upd (upd H1 dx (.own a)) a (.ins (ca c) dx [])) (m1 ++ [a])
    refine ⟨m1 ++ [a], st1 ++ [.ins c []], .ref st1.length :: (xs ++ []), sa, .cons rn ((r1.mono (List.prefix_append _ _) (kx.trans ka)).append rds), by rw [List.append_nil, List.length_cons]; exact hl, ?_⟩
    rw [List.append_nil]
    cases q : F (.ref st1.length :: xs) (st1 ++ [.ins c []]) with
    | er y s2 => rw [q] at h1; exact h1.elim
    | no => rw [q] at h1; exact h1.elim
    | ok v s2 =>
      rw [q] at h1
      cases v with
      | non =>
        intro m2 b2 H2 p2 k2 s2' r2
        cases r2
        exact ⟨rfl, h1 m2 _ H2 ((List.prefix_append _ _).trans p2) ((kx.trans ka).trans k2) s2' (.ref (pre_get p2 (by rw [← s1.len, List.getElem?_append_right (Nat.le_refl _), Nat.sub_self]; rfl)))⟩
      | _ => exact h1.elim
  · exact h1.elim
/-! ## a call of a local that holds a def -/
def callTF (n i : Nat) (Tb : List (String × Fn)) (fa : FA) : FE := fun e st => match e[i]? with
  | some (some (.cls nm)) => (match Tb.lookup nm with
    | some F => (fa e st).bind fun xs s1 => if xs.length = n then F xs s1 else .no
    | none => .no)
  | _ => .no
def tCallT (S : Addr → Sp → Prop) (i : Nat) (E : L2.St → XK) (t : TA) : TE := fun σ H Q => ∃ f sp, σ[i]? = some (some (.ref f)) ∧ S f sp ∧ t σ H fun vs H1 => sp vs H1 Q (E σ)
theorem pe_callT {CX : CXT} {k i : Nat} {S : Addr → Sp → Prop} {E : L2.St → XK} {x : Str} {p pos : Pos} {e : Expr} {es : List Expr} {t : TA} (A : ∀ f sp, S f sp → ∃ fd ps, FnOk X.prog X.w X.K X.mg X.base CX k f fd ps sp ∧ PySem.W.keepIn X.K (.ref f) = true ∧ Binds X.K fd ps []) (hr : Room k X.A) (hx : ∀ σ, PassesAt CX X σ (E σ)) (hN : X.N[i]? = some x) (hv : Vis X.env.scope x) (ha : PA X (e :: es) t)
    (hdb : (x == ("__debug__" : Str)) = false) (hcd : (x == ("__classdict__" : Str)) = false)
    (he : starEach (e :: es) X.env = (false, eval e X.env) :: starEach es X.env) (hpl : (backTo pos (starEach es X.env)).any (·.1) = false) : PE X (.Call (.Name x p) (e :: es) [] pos) (tCallT S i E t) := by
  refine ⟨fun pins s σ H Q I h => ?_⟩
  obtain ⟨f, sp, hs, hS, ht⟩ := h
  obtain ⟨fd, ps, F, hk, hb⟩ := A f sp hS
  refine wpAny_Call_Name_kw (thn ((pe_var (pos := p) hN hv hdb hcd).run pins s σ H (fun v H1 => v = .ref f ∧ H1 = H) I ⟨.ref f, hs, rfl, rfl⟩) fun u s1 ⟨v, H1, I1, r1, q1⟩ => ?_)
  obtain ⟨rfl, rfl⟩ := q1
  cases r1
  refine PySem.W.callWith_K (h₀ := X.base) I.ok.mod.kin hk (thn (ha.run pos pins s1 σ _ _ I1 ht) fun us s2 ⟨vs, H2, I2, r, q⟩ => ⟨I2.kIn, ?_⟩) he hpl
  exact run_fnSD (dvs := []) F hr hb .nil (hx σ) I2 r (by rw [List.append_nil]; exact q)
theorem je_callT {k n i : Nat} {Tb : List (String × Fn)} {x : Str} {p pos : Pos} {e : Expr} {es : List Expr} {fa : FA} (tk : Takes X W) (hT : ∀ q ∈ Tb, ∃ fd ps, Cal X.prog X.w X.K X.mg X.base ca k (ca q.1) fd ps q.2 ∧ ps.length = n ∧ Binds X.K fd ps []) (hr : Room k X.A) (ha : JA X W ca (e :: es) fa)
    (hN : X.N[i]? = some x := by rfl) (hv : Vis X.env.scope x := by first | exact .inl rfl | exact .inr rfl) (hdb : (x == ("__debug__" : Str)) = false := by decide) (hcd : (x == ("__classdict__" : Str)) = false := by decide)
    (he : starEach (e :: es) X.env = (false, eval e X.env) :: starEach es X.env := by rfl) (hpl : (backTo pos (starEach es X.env)).any (·.1) = false := by rfl) :
    JE X W ca (.Call (.Name x p) (e :: es) [] pos) (callTF n i Tb fa) := by
  obtain ⟨t, pa, r⟩ := ha.ex
  refine ⟨_, pe_callT (k := k) (i := i) (E := WE W) (S := fun f sp => ∃ q ∈ Tb, f = ca q.1 ∧ sp = spF X.K ca n q.2) (fun f sp h => ?_) hr (passAt tk) hN hv pa hdb hcd he hpl, fun σ H m env st Q s e h => ?_⟩
  · obtain ⟨q, hq, rfl, rfl⟩ := h
    obtain ⟨fd, ps, C, hl, b⟩ := hT q hq
    subst hl
    exact ⟨fd, ps, C.ok, C.kp, b⟩
  · unfold callTF at h
    split at h
    · rename_i nm hi
      split at h
      · rename_i F hF
        have hq : ∃ q ∈ Tb, q.1 = nm ∧ q.2 = F := by
          clear h hT
          induction Tb with
          | nil => cases hF
          | cons a q ih =>
            simp only [List.lookup] at hF
            split at hF
            · rename_i hb
              cases hF
              exact ⟨a, List.mem_cons_self, (eq_of_beq hb).symm, rfl⟩
            · obtain ⟨z, h1, h2⟩ := ih hF
              exact ⟨z, List.mem_cons_of_mem _ h1, h2⟩
        obtain ⟨q, hq, rfl, rfl⟩ := hq
        obtain ⟨v, hv', rv⟩ := e.2 i _ hi
        cases rv
        refine ⟨ca q.1, _, hv', ⟨q, hq, rfl, rfl⟩, r σ H m env st _ s e (Post.bind h fun xs st1 m1 xs' H1 p1 k1 s1 r1 h1 => ?_)⟩
        split at h1
        · rename_i hl
          exact ⟨m1, st1, xs, s1, r1, hl, h1⟩
        · exact h1.elim
      · exact h.elim
    · exact h.elim
end
end
end FL
end
section
set_option linter.all false
set_option maxRecDepth 100000
namespace FL
open PySem PySem.Spec PyProof.Rows L2
noncomputable section
def b_Bank___init__ : FS :=
    (seqS (sfldS "Bank" ("room" : Str) (varF 1) (varF 0))
    (sfldS "Bank" ("terms" : Str) (lstF nilA) (varF 0)))
def F_Bank___init__ : Fn := runFn 2 b_Bank___init__
end
end FL
end
section
set_option linter.all false
set_option maxRecDepth 100000
namespace FL
open PySem PySem.Spec PyProof.Rows L2
noncomputable section
/-! ## what is never reached -/
def noS : FS := fun _ _ => .no
def noE : FE := fun _ _ => .no
section
variable {X : Cx} {W : WX} {ca : String → Addr}
theorem js_no {s : Stmt} : JS X W ca s noS := ⟨fun _ _ _ => False, ⟨fun _ _ _ _ _ _ h => h.elim⟩, fun _ _ _ _ _ _ _ _ h => h⟩
theorem je_no {e : Expr} : JE X W ca e noE := ⟨fun _ _ _ => False, ⟨fun _ _ _ _ _ _ h => h.elim⟩, fun _ _ _ _ _ _ _ _ h => h⟩
/-! ## a try whose body raises nothing -/
def thruS (f g : FS) : FS := fun e st => match f e st with
  | .nx e1 s1 => g e1 s1
  | .er _ _ _ => .no
  | r => r
theorem js_thru {body orelse : List Stmt} {h0 : ExceptHandler} {hs : List ExceptHandler} {pos : Pos} {f g : FS} (hb : JSs X.nox (fun _ _ _ _ => False) ca body f) (ho : JSs X W ca orelse g) : JS X W ca (.Try body (h0 :: hs) orelse [] pos) (thruS f g) := by
  obtain ⟨t, p, r⟩ := hb.ex
  obtain ⟨u, q, z⟩ := ho.ex
  refine ⟨_, ps_try_thru p q, fun σ H m env st D s e h => ?_⟩
  refine r σ H m env st _ s e ?_
  unfold thruS at h
  cases c : f env st with
  | nx e1 s1 =>
    rw [c] at h
    intro m1 σ1 H1 p1 k1 s2 e2
    exact z σ1 H1 m1 e1 s1 D s2 e2 (PostS.mono h p1 k1)
  | rt v s1 => rw [c] at h; exact h
  | bk e1 s1 => rw [c] at h; exact h
  | ct e1 s1 => rw [c] at h; exact h
  | er x e1 s1 => rw [c] at h; exact h.elim
  | no => rw [c] at h; exact h
/-! ## a field is read -/
def fldF (c : String) (f : Str) (fo : FE) : FE := fun e st => (fo e st).bind fun o s1 => match o with
  | .ref n => (match s1[n]? with
    | some (.ins c' fs) => if c' = c then (match fs.lookup f with
      | some v => .ok v s1
      | none => .no) else .no
    | _ => .no)
  | _ => .no
theorem je_fld {o : Expr} {f : Str} {c : String} {pos : Pos} {fo : FE} (hc : Cls X.K (ca c)) (hn : NoAttr X.K (ca c) f) (ho : JE X W ca o fo) (hb : attributeBase o f X.env (eval o X.env) = eval o X.env := by rfl) : JE X W ca (.Attribute o f pos) (fldF c f fo) := by
  obtain ⟨to', po', ro⟩ := ho.ex
  refine ⟨_, pe_fld po' hb, fun σ H m env st Q s e h => ?_⟩
  refine ro σ H m env st _ s e (Post.bind h fun x st1 m1 x' H1 p1 k1 s1 r1 h1 => ?_)
  cases r1 with
  | ref hn' =>
    rename_i n a
    simp only at h1
    split at h1
    · rename_i c' fs hx
      split at h1
      · rename_i hcc
        subst hcc
        obtain ⟨dx, gs, ea, rg⟩ := s1.at hx hn'
        split at h1
        · rename_i v hv
          obtain ⟨w, hw, rv⟩ := rg.look.2 v hv
          exact ⟨a, ca c', dx, gs, w, rfl, ea, hc, hn, hw, h1 m1 w H1 (List.prefix_refl _) Keep.refl s1 rv⟩
        · exact h1.elim
      · exact h1.elim
    · exact h1.elim
  | _ => exact h1.elim
end
end
end FL
namespace RZ
open PySem PySem.Spec PyProof.Rows L2
section
variable {prog : Program} {w : World} {A : Around} {E : Value → Shared → Prop} {s : Shared}
theorem extend_revL {R : Result → Shared → Prop} {it l : Addr} {items : Array Value} (hh : A.handled = none) (hit : s.heap.IsRevIter it l ((items.size : Int) - 1)) (hl : s.heap.IsList l items) (hne : l ≠ it) (hn : items.size ≤ sizeLine) (S : Addr) (res : Value) (c0 : Nat)
    (hSi : S ≠ it) (hSl : S ≠ l) (hS : s.heap.get? S = some { cls := .type "list", data := .seq #[] c0 })
    (hR : ∀ h' tk acc' c', (∀ b o, b ≠ S → b ≠ it → s.heap.get? b = some o → h'.get? b = some o) → h'.get? S = some { cls := .type "list", dict := none, data := .seq acc' c', slots := #[] } →
      ItemsOf (fun i v => items[items.size - 1 - i]? = some v) acc' items.size → R (.ok (.ret res)) { s with heap := h', toks := tk }) :
    wpAny (model prog w) A.in1 (Builtin.List.listExtendWith (.ref S) (.ref it) res)
      (fun fin s' => match fin with | .done f => R (.ok f) s' | .again c' => c'.quiet = true ∧ codeAny (model prog w) A c' R s') (fun e s' => R (.error e) s') s := by
  have W := (Walks.listRev (prog := prog) (w := w) (A := A.in1) hh it l hne items).toS
  have hSf : S ∉ [it, l] := by simp only [List.mem_cons, List.not_mem_nil, or_false, not_or]; exact ⟨hSi, hSl⟩
  have hT : s.TypeIs (.ref it) "list_reverseiterator" := Heap.IsRevIter.typeIs hit
  have h1 : Builtin.List.listSameRef (.ref S) (.ref it) = false := by simp [Builtin.List.listSameRef, hSi]
  unfold Builtin.List.listExtendWith
  refine wpAny_bind (wpAny_typeOf hT ?_)
  rw [if_neg (by rw [h1]; decide)]
  refine wpAny_bind (wpAny_pyIter_revIter hit ?_)
  refine wpAny_bind (wpAny_holding ?_)
  unfold Builtin.List.listLengthHint
  refine wpAny_bind (wpAny_specialOf hT RT.nolen_lri ?_)
  show wpAny _ A.in1 (specialOf (Value.ref it) (Str.ofString "__length_hint__") >>= _) _ _ _
  refine wpAny_bind (wpAny_specialOf hT RT.hint_lri ?_)
  generalize hid : ("list_reverseiterator.__length_hint__" : String) = id0
  wp_delta
  rw [show splitId id0 = some ("list_reverseiterator", "__length_hint__") from by subst hid; decide +kernel]
  subst hid
  refine wpAny_bind (wpAny_isInstance (b := true) hT (by rw [isSubtype_type]; kernel_rfl) ?_)
  refine wpAny_pure ?_
  rw [if_neg (by decide)]
  have e0 : ((items.size : Nat) : Int) - 1 - ((0 : Nat) : Int) = (items.size : Int) - 1 := by omega
  refine wpAny_pure ⟨plainId_quiet F.plain_extend_loop _, codeAny_extend_loopS W hn _ hSf _ items.size 0 _ _ _ rfl (Nat.zero_le _) ⟨Nat.zero_le _, by rw [e0]; exact hit, hl⟩ hS (ItemsOf.nil _) fun s' acc' c' hm hS' hacc => ?_⟩
  rw [Moved.eq_with hm]
  refine hR s'.heap s'.toks acc' c' (fun b o hb hb2 e => hm.heap b o (fun hmem => ?_) e) hS' hacc
  rcases List.mem_cons.mp hmem with e' | hmem
  · exact hb e'
  · exact hb2 (List.mem_singleton.mp hmem)
theorem init_revL {R : Result → Shared → Prop} {it l : Addr} {items : Array Value} (hh : A.handled = none) (hit : s.heap.IsRevIter it l ((items.size : Int) - 1)) (hl : s.heap.IsList l items) (hne : l ≠ it) (hn : items.size ≤ sizeLine) (S : Addr)
    (hSi : S ≠ it) (hSl : S ≠ l) (hS : s.heap.get? S = some { cls := .type "list", data := .seq #[] })
    (hR : ∀ h' tk acc' c', (∀ b o, b ≠ S → b ≠ it → s.heap.get? b = some o → h'.get? b = some o) → h'.get? S = some { cls := .type "list", dict := none, data := .seq acc' c', slots := #[] } →
      ItemsOf (fun i v => items[items.size - 1 - i]? = some v) acc' items.size → R (.ok (.ret .none)) { s with heap := h', toks := tk }) :
    wpAny (model prog w) A.in1 (Builtin.«list.__init__» ⟨[.ref S, .ref it], []⟩)
      (fun fin s' => match fin with | .done f => R (.ok f) s' | .again c' => c'.quiet = true ∧ codeAny (model prog w) A c' R s') (fun e s' => R (.error e) s') s := by
  show wpAny _ A.in1 (do let old ← Builtin.List.listItems (.ref S); Builtin.List.listUpdate (.ref S) (fun _ => #[]); letGo old.toList.reverse; Builtin.List.listExtendWith (.ref S) (.ref it) .none) _ _ s
  refine wpAny_bind ?_
  unfold Builtin.List.listItems
  refine wpAny_bind (wpAny_seqItems hS rfl (wpAny_pure ?_))
  show wpAny _ _ (updateSeq S (fun _ => #[]) >>= fun _ => letGo (#[] : Array Value).toList.reverse >>= fun _ => Builtin.List.listExtendWith (.ref S) (.ref it) .none) _ _ s
  refine wpAny_bind (wpAny_updateSeq hS rfl ?_)
  have hS₂ := Heap.get?_update_self (Obj.mapSeq (fun _ => (#[] : Array Value))) hS rfl
  have oth : ∀ b o, b ≠ S → s.heap.get? b = some o → (s.heap.update S (Obj.mapSeq (fun _ => (#[] : Array Value)))).get? b = some o :=
    fun b o hb e => (Heap.get?_update_other _ _ (Ne.symm hb)).trans e
  refine wpAny_bind (wpAny_letGo ?_)
  refine extend_revL hh (hit.at fun o e => oth _ _ (Ne.symm hSi) e) (hl.at fun o e => oth _ _ (Ne.symm hSl) e) hne hn _ _ _ hSi hSl hS₂ fun h' tk acc' c' hk hS' hacc => ?_
  exact hR h' tk acc' c' (fun b o hb hb2 e => hk b o hb hb2 (oth b o hb e)) hS' hacc
theorem call_list_rev {it l : Addr} {items : Array Value} {Q : Value → Shared → Prop} (hh : A.handled = none) (hit : s.heap.IsRevIter it l ((items.size : Int) - 1)) (hl : s.heap.IsList l items) (hne : l ≠ it) (hn : items.size ≤ sizeLine)
    (hQ : ∀ h' tk acc' c', (∀ b o, b ≠ it → s.heap.get? b = some o → h'.get? b = some o) → h'.get? s.heap.objs.size = some { cls := .type "list", dict := none, data := .seq acc' c', slots := #[] } →
      ItemsOf (fun i v => items[items.size - 1 - i]? = some v) acc' items.size → Q (.ref s.heap.objs.size) { s with heap := h', toks := tk }) :
    wpAny (model prog w) A (call (.type "list") [.ref it]) Q E s := by
  obtain ⟨oi, hoi, _⟩ := id hit
  obtain ⟨ol, hol, _⟩ := id hl
  have hSi : s.heap.objs.size ≠ it := Nat.ne_of_gt (Heap.lt_size hoi)
  have hSl : s.heap.objs.size ≠ l := Nat.ne_of_gt (Heap.lt_size hol)
  refine callType_codes (Q₁ := fun obj s₁ => obj = .ref s.heap.objs.size ∧ s₁ = { s with heap := s.heap.push { cls := .type "list", data := .seq #[] } }) F.called_list (F.typeCall_list_1 _) F.entry_list_init
    (code_list_new _ ⟨rfl, rfl⟩) fun obj s₁ h₁ => ?_
  obtain ⟨rfl, rfl⟩ := h₁
  have hS : (s.heap.push { cls := .type "list", data := .seq #[] }).get? s.heap.objs.size = some { cls := .type "list", data := .seq #[] } := Heap.get?_push_size _ rfl
  refine ⟨⟨_, hS, rfl⟩, F.args_list_init_2 _ _, init_revL (A := A.in1) hh (hit.at fun o e => Heap.get?_push_of_some _ e) (hl.push _) hne hn _ hSi hSl hS fun h' tk acc' c' hk hS' hacc => ?_⟩
  exact ⟨rfl, hQ h' tk acc' c' (fun b o hb e => hk b o (Nat.ne_of_lt (Heap.lt_size e)) hb (Heap.get?_push_of_some _ e)) hS' hacc⟩
end
section
variable {X : Cx}
def tLstRev (K : PySem.W.Frag) (te : TE) : TE := fun σ H Q => te σ H fun v H1 => ∃ (a : Addr) (xs : List V), v = .ref a ∧ SqL K H1 a xs ∧ ∀ q, H1 q = none → Q (.ref q) (upd H1 q (.lst xs.reverse))
theorem pe_lstRev {e : Expr} {te : TE} {p p2 pos pos2 : Pos} (hc : X.calm = true) (hg : Gl X "list") (hm : X.mg "list" = none) (hg2 : Gl X "reversed") (hm2 : X.mg "reversed" = none) (he : PE X e te)
    (hs : starEach [e] X.env = (false, eval e X.env) :: starEach [] X.env)
    (hs2 : starEach [.Call (.Name "reversed" p2) [e] [] pos2] X.env = (false, eval (.Call (.Name "reversed" p2) [e] [] pos2) X.env) :: starEach [] X.env) :
    PE X (.Call (.Name "list" p) [.Call (.Name "reversed" p2) [e] [] pos2] [] pos) (tLstRev X.K te) := by
  refine ⟨fun pins s σ H Q I h => ?_⟩
  refine Call_ (ld_blt I hg hm boot_list (PyProof.Rows.callWith_type1 (args_cons (Call_ (ld_blt I hg2 hm2 PyProof.Rows.boot_reversed (PyProof.Rows.callWith_type1 (args_cons (thn (he.run pins s σ H _ I h) fun u s1 ⟨v, H1, I1, r1, q1⟩ => args_nil ?_) hs) hs rfl))) hs2) hs2 rfl))
  obtain ⟨a, xs, ev, hq, q⟩ := q1
  subst ev
  obtain rfl : u = Value.ref a := r1
  obtain ⟨its, rv, p', hz⟩ := I1.list hq
  refine call_reversed_list p'.isList (args_nil ?_)
  have k0 : ∀ b o, s1.heap.get? b = some o → (s1.heap.push (revObj a ((its.toArray.size : Int) - 1))).get? b = some o := fun b o e => Heap.get?_push_of_some _ e
  have I2 : Inv X pins σ H1 { s1 with heap := s1.heap.push (revObj a ((its.toArray.size : Int) - 1)) } := I1.kept (t' := s1.toks) k0
  have fp := I1.fpOk (H' := H1) (b := s1.heap.objs.size) (Nat.le_refl _) (I1.hok.fresh (Nat.le_refl _))
  have hl := p'.isList
  obtain ⟨ol, hol, _⟩ := id hl
  have hne : a ≠ s1.heap.objs.size := Nat.ne_of_lt (Heap.lt_size hol)
  have hn : its.toArray.size ≤ sizeLine := by rw [List.size_toArray, ← rv.length]; exact hz
  refine call_list_rev (s := { s1 with heap := s1.heap.push (revObj a ((its.toArray.size : Int) - 1)) }) (I1.ok.hd hc) ⟨_, Heap.get?_push_size _ rfl, rfl, rfl⟩ (hl.push _) hne hn fun h' tk acc c' hk e' hi => ?_
  refine ⟨.ref _, upd H1 _ (.lst xs.reverse), I2.turnedNew (t' := tk) (ch := [s1.heap.objs.size]) (fun b o hb e => hk b o (by simpa using hb) e) (fun b hb => by rw [List.mem_singleton.mp hb]; exact fp) (Nat.le_refl _)
    (show ObjOk X.prog X.w _ _ _ (.lst xs.reverse) from ⟨by rw [List.length_reverse]; exact hz, acc.toList, c', RT.vals_rev rv hi, by rw [Array.toArray_toList]; exact e'⟩), rfl, q _ (I2.hok.fresh (Nat.le_refl _))⟩
end
end RZ
namespace FL
open PySem PySem.Spec PyProof.Rows L2
noncomputable section
section
variable {X : Cx} {W : WX} {ca : String → Addr}
/-! ## list(reversed(l)) -/
def lrvF (fa : FE) : FE := fun e st => (fa e st).bind fun x s1 => match lstAt s1 x with
  | some xs => .ok (.ref s1.length) (s1 ++ [.lst xs.reverse])
  | none => .no
theorem je_listRev {a : Expr} {p p2 pos pos2 : Pos} {fa : FE} (hl : X.mg "list" = none) (hm : X.mg "reversed" = none) (ha : JE X W ca a fa) (hc : X.calm = true := by rfl) (hg : Gl X "list" := by rfl) (hg2 : Gl X "reversed" := by rfl)
    (na : starEach [a] X.env = (false, eval a X.env) :: starEach [] X.env := by rfl) (na2 : starEach [.Call (.Name "reversed" p2) [a] [] pos2] X.env = (false, eval (.Call (.Name "reversed" p2) [a] [] pos2) X.env) :: starEach [] X.env := by rfl) :
    JE X W ca (.Call (.Name "list" p) [.Call (.Name "reversed" p2) [a] [] pos2] [] pos) (lrvF fa) := by
  obtain ⟨t, pa, r⟩ := ha.ex
  refine ⟨_, RZ.pe_lstRev hc hg hl hg2 hm pa na na2, fun σ H m env st Q s e h => ?_⟩
  refine r σ H m env st _ s e (Post.bind h fun x st1 m1 x' H1 p1 k1 s1 r1 h1 => ?_)
  cases r1 with
  | frz hr rr =>
    obtain ⟨vs, r2⟩ := And.intro hr.sq rr
    refine ⟨_, _, rfl, hr.sq, fun q hq => ?_⟩
    simp only [lstAt] at h1
    obtain ⟨pD, kD, sD, rD⟩ := upd_l (K := X.K) (ca := ca) s1 hq rr.rev
    exact h1 _ _ _ pD kD sD rD
  | ref hn' =>
    rename_i n a'
    simp only [lstAt] at h1
    split at h1
    · rename_i xs hx
      split at hx
      · rename_i ys hy
        cases hx
        obtain ⟨vs, e1, r2⟩ := s1.at hy hn'
        refine ⟨_, vs, rfl, SqL.of e1, fun q hq => ?_⟩
        obtain ⟨pD, kD, sD, rD⟩ := upd_l (K := X.K) (ca := ca) s1 hq r2.rev
        exact h1 _ _ _ pD kD sD rD
      · cases hx
    · exact h1.elim
  | _ => exact h1.elim
end
section
variable {P : Program} {w : World} {K : PySem.W.Frag} {mg : Str → Option Value} {base : Heap} {ca : String → Addr}
/-! ## a def with defaults -/
theorem cal_mkD {x qual : Str} {st : Stmt} {f : Addr} {fd : FuncData} {N ps : List Str} {k n : Nat} {body : FS} {dvs : List V} (F : L2.FunD K x qual (defArgs st) (defBody st) (defScope st) dvs [] f fd) (S : FnScope N ps (defScope st)) (hn : N.length = n)
    (hbody : ∀ (cdv : Value) (A : Around) (outer : List PySem.Env) (s : Shared) (H : Hp) (E : XK), Room k (A.deeper (envOfC qual (defScope st) s.heap.objs.size f cdv)) →
      Takes (cxOf (L2.CX P w) P w K mg base N qual (defScope st) f cdv A outer s H E) (fun cls d _ H => E cls d H) →
      PassesOwn (model P w) (cxOf (L2.CX P w) P w K mg base N qual (defScope st) f cdv A outer s H E).A (cxOf (L2.CX P w) P w K mg base N qual (defScope st) f cdv A outer s H E).env (cxOf (L2.CX P w) P w K mg base N qual (defScope st) f cdv A outer s H E).xe →
      JSs (cxOf (L2.CX P w) P w K mg base N qual (defScope st) f cdv A outer s H E) (fun cls d _ H => E cls d H) ca (defBody st) body) :
    Cal P w K mg base ca (k + 1) f fd ps (runFn n body) := by
  subst hn
  refine ⟨L2.FunD.ok F S (fun vs H Q E h => ?_) (fun cdv A outer s H vs Q E hr h => ?_), F.kp⟩
  · obtain ⟨m, st, xs, _, r, hl, _⟩ := h
    rw [← r.length, hl]
  · obtain ⟨m, st, xs, s0, r, hl, h⟩ := h
    obtain ⟨t, p, z⟩ := (hbody cdv A outer s H E hr (takes_of rfl rfl rfl rfl) (passes_of rfl)).ex
    refine ⟨t, p, z _ H m (xs.map some ++ List.replicate (N.length - xs.length) none) st _ s0 (er_start r) ?_⟩
    unfold runFn at h
    cases q : body (xs.map some ++ List.replicate (N.length - xs.length) none) st with
    | nx e1 s1 => rw [q] at h; exact fun m1 σ1 H1 p1 k1 s2 _ => h.gc s0 m1 _ H1 p1 k1 s2 .non
    | rt v s1 => rw [q] at h; exact fun m1 w1 H1 p1 k1 s2 r1 => h.gc s0 m1 w1 H1 p1 k1 s2 r1
    | er x e1 s1 => rw [q] at h; exact fun m1 d σ1 H1 p1 k1 s2 _ r1 => h.gcx s0 m1 d H1 p1 k1 s2 r1
    | bk e1 s1 => rw [q] at h; exact h.elim
    | ct e1 s1 => rw [q] at h; exact h.elim
    | no => rw [q] at h; exact h.elim
theorem bnd_D {fd : FuncData} {ps : List Str} {ds : List PV} {dvs : List V} (h : ∃ us, Vals dvs us ∧ Binds K fd ps us) (r : ∀ H m, VRs K ca H m ds dvs) : Bnd K ca fd ps ds := by
  obtain ⟨us, h1, h2⟩ := h
  exact ⟨us, dvs, h2, h1, r⟩
theorem funD_mk {x qual : Str} {st : Stmt} {f T : Addr} {oc : Value} {od an : Option Addr} {osl : Array (Option Value)} {kV doc pm cdv ct : Value} {dvs : List V} {o : Obj} {its : List Value} {n : Nat}
    (l : K.lookup f = some ⟨oc, od, .func (PySem.W.fnOf x qual (defArgs st) (defBody st) (defScope st) (.ref T) kV doc pm an cdv ct), osl⟩) (c : PySem.W.codeIn K cdv qual = true) (k : PySem.W.keepIn K (.ref f) = true) (hd : dvs ≠ []) (lT : K.lookup T = some o) (oT : o.data = .seq its.toArray n) (r : Vals dvs its) :
    L2.FunD K x qual (defArgs st) (defBody st) (defScope st) dvs [] f (PySem.W.fnOf x qual (defArgs st) (defBody st) (defScope st) (.ref T) kV doc pm an cdv ct) := ⟨⟨oc, od, _, kV, doc, pm, an, cdv, ct, osl, rfl, l, c, .inr ⟨hd, T, o, its, n, rfl, lT, oT, r⟩, .inl rfl⟩, k⟩
end
end
end FL
end
section
set_option linter.all false
set_option maxRecDepth 100000
namespace FL
open PySem PySem.Spec PyProof.Rows L2
noncomputable section
def b_Bank_place_s1 : FS :=
    (ifS (isB (opF eqV (varF 3) (varF 1))) (retS (varF 2)) nxS)
def b_Bank_place : FS :=
    (seqS (forS (enumI (consA (fldF "Bank" ("terms" : Str) (varF 0)) nilA)) (tupG 2 (consG (nameG 2) (consG (nameG 3) nilG))) b_Bank_place_s1)
    (retS (cstF .non)))
def F_Bank_place : Fn := runFn 4 b_Bank_place
end
end FL
end
section
set_option linter.all false
set_option maxRecDepth 100000
namespace FL
open PySem PySem.Spec PyProof.Rows L2
noncomputable section
def b_Bank_find_s1 (p_Bank_find : Fn) : FS :=
    (seqS (setS 4 (methF "Bank" ("find" : Str) 2 p_Bank_find [] (varF 0) (consA (varF 3) nilA)))
    (seqS (ifS (isB (opF isNonV (varF 4) (cstF .non))) (retS (cstF .non)) nxS)
    (dropS (bmF' "list" appendV (varF 2) (consA (varF 4) nilA)))))
def b_Bank_find (p_Bank_find : Fn) : FS :=
    (seqS (ifS (isB (opF neV (opF idxV (varF 1) (cstF (.int 0))) (cstF (.str ("of" : Str))))) (retS (methF "Bank" ("place" : Str) 2 F_Bank_place [] (varF 0) (consA (varF 1) nilA))) nxS)
    (seqS (setS 2 (lstF nilA))
    (seqS (forS (seqI (opF idxV (varF 1) (cstF (.int 2)))) (nameG 3) (b_Bank_find_s1 p_Bank_find))
    (retS (methF "Bank" ("place" : Str) 2 F_Bank_place [] (varF 0) (consA (tupF (consA (cstF (.str ("of" : Str))) (consA (opF idxV (varF 1) (cstF (.int 1))) (consA (cbF tupleV (consA (varF 2) nilA)) nilA)))) nilA))))))
def F_Bank_find : Nat → Fn
  | 0 => fn0
  | n + 1 => runFn 5 (b_Bank_find (F_Bank_find n))
end
end FL
end
section
set_option linter.all false
set_option maxRecDepth 100000
namespace FL
open PySem PySem.Spec PyProof.Rows L2
noncomputable section
def b_Bank_hold : FS :=
    (seqS (setS 2 (methF "Bank" ("place" : Str) 2 F_Bank_place [] (varF 0) (consA (varF 1) nilA)))
    (seqS (ifS (isB (opF notNonV (varF 2) (cstF .non))) (retS (varF 2)) nxS)
    (seqS (ifS (isB (opF geV (cbF lenV (consA (fldF "Bank" ("terms" : Str) (varF 0)) nilA)) (fldF "Bank" ("room" : Str) (varF 0)))) noS nxS)
    (seqS (dropS (bmF' "list" appendV (fldF "Bank" ("terms" : Str) (varF 0)) (consA (varF 1) nilA)))
    (retS (opF subV (cbF lenV (consA (fldF "Bank" ("terms" : Str) (varF 0)) nilA)) (cstF (.int 1))))))))
def F_Bank_hold : Fn := runFn 3 b_Bank_hold
end
end FL
end
section
set_option linter.all false
set_option maxRecDepth 100000
namespace FL
open PySem PySem.Spec PyProof.Rows L2
noncomputable section
def b_Bank_put_part_s1 (p_Bank_put_part : Fn) : FS :=
    (dropS (bmF' "list" appendV (varF 3) (consA (methF "Bank" ("put_part" : Str) 3 p_Bank_put_part [] (varF 0) (consA (varF 4) (consA (varF 2) nilA))) nilA)))
def b_Bank_put_part (p_Bank_put_part : Fn) : FS :=
    (seqS (ifS (isB (opF eqV (opF idxV (varF 1) (cstF (.int 0))) (cstF (.str ("any" : Str))))) (retS (opF idxV (varF 2) (opF idxV (varF 1) (cstF (.int 1))))) nxS)
    (seqS (ifS (isB (opF neV (opF idxV (varF 1) (cstF (.int 0))) (cstF (.str ("of" : Str))))) (retS (methF "Bank" ("hold" : Str) 2 F_Bank_hold [] (varF 0) (consA (varF 1) nilA))) nxS)
    (seqS (setS 3 (lstF nilA))
    (seqS (forS (seqI (opF idxV (varF 1) (cstF (.int 2)))) (nameG 4) (b_Bank_put_part_s1 p_Bank_put_part))
    (retS (methF "Bank" ("hold" : Str) 2 F_Bank_hold [] (varF 0) (consA (tupF (consA (cstF (.str ("of" : Str))) (consA (opF idxV (varF 1) (cstF (.int 1))) (consA (cbF tupleV (consA (varF 3) nilA)) nilA)))) nilA)))))))
def F_Bank_put_part : Nat → Fn
  | 0 => fn0
  | n + 1 => runFn 5 (b_Bank_put_part (F_Bank_put_part n))
end
end FL
end
section
set_option linter.all false
set_option maxRecDepth 100000
namespace FL
open PySem PySem.Spec PyProof.Rows L2
noncomputable section
def b_Bank_put : FS :=
    (seqS (setS 3 (cbF lenV (consA (fldF "Bank" ("terms" : Str) (varF 0)) nilA)))
    (thruS (setS 4 (methF "Bank" ("put_part" : Str) 3 (F_Bank_put_part 32) [] (varF 0) (consA (varF 1) (consA (varF 2) nilA)))) (retS (varF 4))))
def F_Bank_put : Fn := runFn 5 b_Bank_put
end
end FL
end
section
set_option linter.all false
set_option maxRecDepth 100000
namespace FL
open PySem PySem.Spec PyProof.Rows L2
noncomputable section
def b_L_at : FS :=
    (seqS (ifS (isB (opF ltV (varF 1) (cbF lenV (consA (varF 0) nilA)))) (retS (opF idxV (varF 0) (varF 1))) nxS)
    (retS (cstF (.int 0))))
def F_L_at : Fn := runFn 2 b_L_at
end
end FL
end
section
set_option linter.all false
set_option maxRecDepth 100000
namespace FL
open PySem PySem.Spec PyProof.Rows L2
noncomputable section
def b_L_held_s1 : FS :=
    (ifS (isB (opF eqV (opF idxV (varF 0) (varF 2)) (varF 1))) (retS (varF 2)) nxS)
def b_L_held : FS :=
    (seqS (forS (rng1I (consA (cbF lenV (consA (varF 0) nilA)) nilA)) (nameG 2) b_L_held_s1)
    (retS (cstF .non)))
def F_L_held : Fn := runFn 3 b_L_held
end
end FL
end
section
set_option linter.all false
set_option maxRecDepth 100000
namespace FL
open PySem PySem.Spec PyProof.Rows L2
noncomputable section
def b_L_find_e1 (p_L_find : Fn) : FE :=
    (callF 2 p_L_find [] (consA (varF 0) (consA (varF 3) nilA)))
def b_L_find (p_L_find : Fn) : FS :=
    (seqS (ifS (isB (opF neV (opF idxV (varF 1) (cstF (.int 0))) (cstF (.str ("of" : Str))))) (retS (callF 2 F_L_held [] (consA (varF 0) (consA (varF 1) nilA)))) nxS)
    (seqS (setS 2 (lcF (seqI (opF idxV (varF 1) (cstF (.int 2)))) [3] (nameG 3) yesT (b_L_find_e1 p_L_find)))
    (seqS (ifS (isB (opF inV (cstF .non) (varF 2))) (retS (cstF .non)) nxS)
    (retS (callF 2 F_L_held [] (consA (varF 0) (consA (tupF (consA (cstF (.str ("of" : Str))) (consA (opF idxV (varF 1) (cstF (.int 1))) (consA (cbF tupleV (consA (varF 2) nilA)) nilA)))) nilA)))))))
def F_L_find : Nat → Fn
  | 0 => fn0
  | n + 1 => runFn 4 (b_L_find (F_L_find n))
end
end FL
end
section
set_option linter.all false
set_option maxRecDepth 100000
namespace FL
open PySem PySem.Spec PyProof.Rows L2
noncomputable section
def b_L_put_e1 (p_L_put : Fn) : FE :=
    (callF 2 p_L_put [] (consA (varF 0) (consA (varF 2) nilA)))
def b_L_put (p_L_put : Fn) : FS :=
    (seqS (ifS (isB (opF eqV (opF idxV (varF 1) (cstF (.int 0))) (cstF (.str ("of" : Str))))) (setS 1 (tupF (consA (cstF (.str ("of" : Str))) (consA (opF idxV (varF 1) (cstF (.int 1))) (consA (cbF tupleV (consA (lcF (seqI (opF idxV (varF 1) (cstF (.int 2)))) [2] (nameG 2) yesT (b_L_put_e1 p_L_put)) nilA)) nilA))))) nxS)
    (seqS (ifS (isB (opF isNonV (callF 2 F_L_held [] (consA (varF 0) (consA (varF 1) nilA))) (cstF .non))) (dropS (bmF' "list" appendV (varF 0) (consA (varF 1) nilA))) nxS)
    (retS (callF 2 F_L_held [] (consA (varF 0) (consA (varF 1) nilA))))))
def F_L_put : Nat → Fn
  | 0 => fn0
  | n + 1 => runFn 3 (b_L_put (F_L_put n))
end
end FL
end
section
set_option linter.all false
set_option maxRecDepth 100000
namespace FL
open PySem PySem.Spec PyProof.Rows L2
noncomputable section
def b_L_same : FS :=
    (seqS (ifS (isB (opF isNonV (varF 1) (cstF .non))) (retS (opF isNonV (varF 0) (cstF .non))) nxS)
    (retS (andF (cbF isiV (consA (varF 0) (consA (cstF (.ty "int")) nilA))) (andF (notF (cbF isiV (consA (varF 0) (consA (cstF (.ty "bool")) nilA)))) (opF eqV (varF 0) (varF 1))))))
def F_L_same : Fn := runFn 2 b_L_same
end
end FL
end
section
set_option linter.all false
set_option maxRecDepth 100000
namespace FL
open PySem PySem.Spec PyProof.Rows L2
noncomputable section
def b_L_draw : FS :=
    (retS (opF modV (opF fdivV (opF modV (opF mulV (opF addV (opF modV (varF 0) (cstF (.int 2147483647))) (cstF (.int 5))) (varF 1)) (cstF (.int 2147483629))) (cstF (.int 89))) (varF 2)))
def F_L_draw : Fn := runFn 3 b_L_draw
end
end FL
end
section
set_option linter.all false
set_option maxRecDepth 100000
namespace FL
open PySem PySem.Spec PyProof.Rows L2
noncomputable section
def b_L_word_3 : FS :=
    (seqS (setS 2 (cstF (.str ("abcdefghijklmnopqrstuvwxyz" : Str))))
    (seqS (setS 3 (callF 2 F_L_at [] (consA (varF 0) (consA (cstF (.int 0)) nilA))))
    (seqS (setS 4 (opF addV (cstF (.int 1)) (opF modV (varF 3) (cstF (.int 8)))))
    (seqS (setS 5 (opF modV (opF fdivV (varF 3) (cstF (.int 8))) (varF 4)))
    (seqS (setS 6 (opF idxV (varF 2) (opF modV (opF fdivV (varF 3) (cstF (.int 64))) (cstF (.int 26)))))
    (seqS (setS 7 (opF idxV (varF 2) (opF modV (opF addV (opF fdivV (varF 3) (cstF (.int 1664))) (varF 1)) (cstF (.int 26)))))
    (retS (opF addV (opF addV (opF mulV (varF 6) (varF 5)) (varF 7)) (opF mulV (varF 6) (opF subV (opF subV (varF 4) (cstF (.int 1))) (varF 5)))))))))))
def F_L_word_3 : Fn := runFn 8 b_L_word_3
end
end FL
end
section
set_option linter.all false
set_option maxRecDepth 100000
namespace FL
open PySem PySem.Spec PyProof.Rows L2
noncomputable section
def b_L_leaf_4 : FS :=
    (seqS (setS 2 (callF 3 F_L_draw [] (consA (varF 1) (consA (cstF (.int 69621)) (consA (cstF (.int 4)) nilA)))))
    (seqS (ifS (isB (opF eqV (varF 2) (cstF (.int 0)))) (retS (tupF (consA (cstF (.str ("num" : Str))) (consA (opF subV (opF modV (varF 1) (opF subV (opF mulV (cstF (.int 2)) (opF powV (cstF (.int 10)) (cstF (.int 60)))) (cstF (.int 1)))) (opF subV (opF powV (cstF (.int 10)) (cstF (.int 60))) (cstF (.int 1)))) nilA)))) nxS)
    (seqS (ifS (isB (opF eqV (varF 2) (cstF (.int 1)))) (retS (tupF (consA (cstF (.str ("num" : Str))) (consA (opF subV (callF 3 F_L_draw [] (consA (varF 1) (consA (cstF (.int 40692)) (consA (cstF (.int 5)) nilA)))) (cstF (.int 2))) nilA)))) nxS)
    (retS (tupF (consA (cstF (.str ("name" : Str))) (consA (callF 2 F_L_word_3 [] (consA (varF 0) (consA (callF 3 F_L_draw [] (consA (varF 1) (consA (cstF (.int 40692)) (consA (cstF (.int 4)) nilA)))) nilA))) nilA)))))))
def F_L_leaf_4 : Fn := runFn 3 b_L_leaf_4
end
end FL
end
section
set_option linter.all false
set_option maxRecDepth 100000
namespace FL
open PySem PySem.Spec PyProof.Rows L2
noncomputable section
def b_L_trees_e1 : FE :=
    (opF idxV (varF 9) (cstF (.int 0)))
def b_L_trees_e2 : FE :=
    (opF idxV (varF 0) (varF 10))
def b_L_trees_t3 : FT :=
    (isB (opF eqV (opF modV (varF 10) (cstF (.int 2))) (cstF (.int 1))))
def b_L_trees_e4 : FE :=
    (opF idxV (varF 12) (cstF (.int 0)))
def b_L_trees_e5 : FE :=
    (opF idxV (varF 12) (cstF (.int 2)))
def b_L_trees_e6 : FE :=
    (opF idxV (varF 12) (cstF (.int 1)))
def b_L_trees_e7 : FE :=
    (opF idxV (varF 2) (callF 3 F_L_draw [] (consA (varF 3) (consA (opF mulV (opF addV (varF 11) (cstF (.int 2))) (cstF (.int 742938285))) (consA (cbF lenV (consA (varF 2) nilA)) nilA)))))
def b_L_trees_s8 : FS :=
    (ifS (orT (isB (opF eqV (varF 2) (lstF nilA))) (isB (opF ltV (callF 3 F_L_draw [] (consA (varF 3) (consA (cstF (.int 48271)) (consA (cstF (.int 8)) nilA)))) (cstF (.int 3))))) (dropS (bmF' "list" appendV (varF 2) (consA (tupF (consA (callF 2 F_L_leaf_4 [] (consA (varF 0) (consA (varF 3) nilA))) (consA (cstF (.int 1)) (consA (cstF (.int 1)) nilA)))) nilA))) (seqS (setS 4 (opF addV (cstF (.int 1)) (opF fdivV (callF 3 F_L_draw [] (consA (varF 3) (consA (cstF (.int 16807)) (consA (cstF (.int 13)) nilA)))) (cstF (.int 4)))))
    (seqS (setS 5 (lcF (rng1I (consA (varF 4) nilA)) [11] (nameG 11) yesT b_L_trees_e7))
    (seqS (setS 6 (callF 2 F_L_word_3 [] (consA (varF 0) (consA (callF 3 F_L_draw [] (consA (varF 3) (consA (cstF (.int 1664525)) (consA (cstF (.int 3)) nilA)))) nilA))))
    (seqS (setS 7 (opF addV (cstF (.int 1)) (cbF sumV (consA (lcF (seqI (varF 5)) [12] (nameG 12) yesT b_L_trees_e6) nilA))))
    (seqS (setS 8 (opF addV (cstF (.int 1)) (cbF maxV (consA (lcF (seqI (varF 5)) [12] (nameG 12) yesT b_L_trees_e5) nilA))))
    (ifS (andT (isB (opF leV (varF 7) (varF 1))) (isB (opF leV (varF 8) (cstF (.int 30))))) (dropS (bmF' "list" appendV (varF 2) (consA (tupF (consA (tupF (consA (cstF (.str ("of" : Str))) (consA (varF 6) (consA (cbF tupleV (consA (lcF (seqI (varF 5)) [12] (nameG 12) yesT b_L_trees_e4) nilA)) nilA)))) (consA (varF 7) (consA (varF 8) nilA)))) nilA))) nxS)))))))
def b_L_trees : FS :=
    (seqS (setS 2 (lstF nilA))
    (seqS (forS (seqI (sliF (lcF (rng1I (consA (cbF lenV (consA (varF 0) nilA)) nilA)) [10] (nameG 10) b_L_trees_t3 b_L_trees_e2) noO (someO (cstF (.int 32))))) (nameG 3) b_L_trees_s8)
    (retS (lcF (seqI (varF 2)) [9] (nameG 9) yesT b_L_trees_e1))))
def F_L_trees : Fn := runFn 13 b_L_trees
end
end FL
end
section
set_option linter.all false
set_option maxRecDepth 100000
namespace FL
open PySem PySem.Spec PyProof.Rows L2
noncomputable section
def b_law_k11_s1 : FS :=
    (seqS (setS 5 (opF idxV (varF 1) (opF modV (opF addV (callF 2 F_L_at [] (consA (varF 0) (consA (opF mulV (cstF (.int 2)) (varF 4)) nilA))) (opF mulV (varF 4) (varF 4))) (cbF lenV (consA (varF 1) nilA)))))
    (seqS (ifS (andT (isB (opF eqV (opF modV (callF 2 F_L_at [] (consA (varF 0) (consA (cstF (.int 1)) nilA))) (cstF (.int 2))) (cstF (.int 0)))) (notT (truT (callF 2 F_L_same [] (consA (methF "Bank" ("find" : Str) 2 (F_Bank_find 32) [] (varF 2) (consA (varF 5) nilA)) (consA (callF 2 (F_L_find 32) [] (consA (varF 3) (consA (varF 5) nilA))) nilA)))))) (retS (cstF (.bl false))) nxS)
    (seqS (ifS (notT (truT (callF 2 F_L_same [] (consA (methF "Bank" ("find" : Str) 2 (F_Bank_find 32) [] (varF 2) (consA (opF idxV (varF 1) (varF 4)) nilA)) (consA (callF 2 (F_L_find 32) [] (consA (varF 3) (consA (opF idxV (varF 1) (varF 4)) nilA))) nilA))))) (retS (cstF (.bl false))) nxS)
    (seqS (setS 6 (callF 2 (F_L_put 32) [] (consA (varF 3) (consA (opF idxV (varF 1) (varF 4)) nilA))))
    (seqS (ifS (orT (notT (truT (callF 2 F_L_same [] (consA (methF "Bank" ("put" : Str) 3 F_Bank_put [.non] (varF 2) (consA (opF idxV (varF 1) (varF 4)) nilA)) (consA (varF 6) nilA))))) (orT (notT (truT (cbF isiV (consA (fldF "Bank" ("terms" : Str) (varF 2)) (consA (cstF (.ty "list")) nilA))))) (isB (opF neV (fldF "Bank" ("terms" : Str) (varF 2)) (varF 3))))) (retS (cstF (.bl false))) nxS)
    (seqS (ifS (notT (truT (callF 2 F_L_same [] (consA (methF "Bank" ("find" : Str) 2 (F_Bank_find 32) [] (varF 2) (consA (opF idxV (varF 1) (varF 4)) nilA)) (consA (varF 6) nilA))))) (retS (cstF (.bl false))) nxS)
    (ifS (notT (truT (callF 2 F_L_same [] (consA (methF "Bank" ("find" : Str) 2 (F_Bank_find 32) [] (varF 2) (consA (varF 5) nilA)) (consA (callF 2 (F_L_find 32) [] (consA (varF 3) (consA (varF 5) nilA))) nilA))))) (retS (cstF (.bl false))) nxS)))))))
def b_law_k11 : FS :=
    (seqS (setS 1 (callF 2 F_L_trees [] (consA (varF 0) (consA (cstF (.int 20)) nilA))))
    (seqS (ifS (isB (opF eqV (opF modV (opF fdivV (callF 2 F_L_at [] (consA (varF 0) (consA (cstF (.int 0)) nilA))) (cstF (.int 7))) (cstF (.int 2))) (cstF (.int 1)))) (setS 1 (lrvF (varF 1))) nxS)
    (seqS (setS 2 (makeF "Bank" 2 F_Bank___init__ (consA (cstF (.int 400)) nilA)))
    (seqS (setS 3 (lstF nilA))
    (seqS (forS (rng1I (consA (cbF lenV (consA (varF 1) nilA)) nilA)) (nameG 4) b_law_k11_s1)
    (retS (opF eqV (fldF "Bank" ("room" : Str) (varF 2)) (cstF (.int 400)))))))))
def F_law_k11 : Fn := runFn 7 b_law_k11
end
end FL
end
section
set_option linter.all false
set_option maxRecDepth 100000
namespace FL.Wk11
open PySem PySem.Spec PyProof.Rows L2 FL
def topS (i : Nat) : Stmt := PySem.Challenge.pw_samewise_k11_put_and_found.main.body.getD i (.Pass ⟨0, 0, 0, 0⟩)
abbrev s_Bank___init__ : Stmt := L2.inClass (topS 4) 0
theorem sc_Bank___init__ : FnScope ["self", "room"] ["self", "room"] (defScope s_Bank___init__) := ⟨rfl, rfl, rfl, by decide +kernel, rfl, by decide +kernel, by decide +kernel⟩
abbrev s_Bank_place : Stmt := L2.inClass (topS 4) 1
theorem sc_Bank_place : FnScope ["self", "term", "k", "held"] ["self", "term"] (defScope s_Bank_place) := ⟨rfl, rfl, rfl, by decide +kernel, rfl, by decide +kernel, by decide +kernel⟩
abbrev s_Bank_find : Stmt := L2.inClass (topS 4) 5
theorem sc_Bank_find : FnScope ["self", "tree", "numbers", "arm", "k"] ["self", "tree"] (defScope s_Bank_find) := ⟨rfl, rfl, rfl, by decide +kernel, rfl, by decide +kernel, by decide +kernel⟩
abbrev s_Bank_hold : Stmt := L2.inClass (topS 4) 2
theorem sc_Bank_hold : FnScope ["self", "term", "k"] ["self", "term"] (defScope s_Bank_hold) := ⟨rfl, rfl, rfl, by decide +kernel, rfl, by decide +kernel, by decide +kernel⟩
abbrev s_Bank_put_part : Stmt := L2.inClass (topS 4) 3
theorem sc_Bank_put_part : FnScope ["self", "pattern", "binds", "numbers", "arm"] ["self", "pattern", "binds"] (defScope s_Bank_put_part) := ⟨rfl, rfl, rfl, by decide +kernel, rfl, by decide +kernel, by decide +kernel⟩
abbrev s_Bank_put : Stmt := L2.inClass (topS 4) 4
theorem sc_Bank_put : FnScope ["self", "pattern", "binds", "many", "k"] ["self", "pattern", "binds"] (defScope s_Bank_put) := ⟨rfl, rfl, rfl, by decide +kernel, rfl, by decide +kernel, by decide +kernel⟩
abbrev s_L_at : Stmt := topS 6
theorem sc_L_at : FnScope ["_law_script", "_law_k"] ["_law_script", "_law_k"] (defScope s_L_at) := ⟨rfl, rfl, rfl, by decide +kernel, rfl, by decide +kernel, by decide +kernel⟩
abbrev s_L_held : Stmt := topS 11
theorem sc_L_held : FnScope ["_law_rows", "_law_term", "_law_k"] ["_law_rows", "_law_term"] (defScope s_L_held) := ⟨rfl, rfl, rfl, by decide +kernel, rfl, by decide +kernel, by decide +kernel⟩
abbrev s_L_find : Stmt := topS 13
theorem sc_L_find : FnScope ["_law_rows", "_law_tree", "_law_arms", "_law_arm"] ["_law_rows", "_law_tree"] (defScope s_L_find) := ⟨rfl, rfl, rfl, by decide +kernel, rfl, by decide +kernel, by decide +kernel⟩
abbrev s_L_put : Stmt := topS 12
theorem sc_L_put : FnScope ["_law_rows", "_law_tree", "_law_arm"] ["_law_rows", "_law_tree"] (defScope s_L_put) := ⟨rfl, rfl, rfl, by decide +kernel, rfl, by decide +kernel, by decide +kernel⟩
abbrev s_L_same : Stmt := topS 14
theorem sc_L_same : FnScope ["_law_found", "_law_due"] ["_law_found", "_law_due"] (defScope s_L_same) := ⟨rfl, rfl, rfl, by decide +kernel, rfl, by decide +kernel, by decide +kernel⟩
abbrev s_L_draw : Stmt := topS 7
theorem sc_L_draw : FnScope ["_law_cell", "_law_factor", "_law_many"] ["_law_cell", "_law_factor", "_law_many"] (defScope s_L_draw) := ⟨rfl, rfl, rfl, by decide +kernel, rfl, by decide +kernel, by decide +kernel⟩
abbrev s_L_word_3 : Stmt := topS 8
theorem sc_L_word_3 : FnScope ["_law_script", "_law_which", "_law_letters", "_law_seed", "_law_size", "_law_place", "_law_rest", "_law_told"] ["_law_script", "_law_which"] (defScope s_L_word_3) := ⟨rfl, rfl, rfl, by decide +kernel, rfl, by decide +kernel, by decide +kernel⟩
abbrev s_L_leaf_4 : Stmt := topS 9
theorem sc_L_leaf_4 : FnScope ["_law_script", "_law_cell", "_law_pick"] ["_law_script", "_law_cell"] (defScope s_L_leaf_4) := ⟨rfl, rfl, rfl, by decide +kernel, rfl, by decide +kernel, by decide +kernel⟩
abbrev s_L_trees : Stmt := topS 10
theorem sc_L_trees : FnScope ["_law_script", "_law_most", "_law_rows", "_law_cell", "_law_size", "_law_arms", "_law_word_here", "_law_many", "_law_deep", "_law_row", "_law_k", "_law_j", "_law_arm"] ["_law_script", "_law_most"] (defScope s_L_trees) := ⟨rfl, rfl, rfl, by decide +kernel, rfl, by decide +kernel, by decide +kernel⟩
abbrev s_law_k11 : Stmt := topS 15
theorem sc_law_k11 : FnScope ["_law_script", "_law_trees_here", "_law_bank", "_law_rows", "_law_k", "_law_other", "_law_due"] ["_law_script"] (defScope s_law_k11) := ⟨rfl, rfl, rfl, by decide +kernel, rfl, by decide +kernel, by decide +kernel⟩
structure Txt (K : PySem.W.Frag) (mg : Str → Option Value) where
  a_Bank___init__ : Addr
  d_Bank___init__ : FuncData
  h_Bank___init__ : L2.Fun K "__init__" "Bank.__init__" s_Bank___init__ a_Bank___init__ d_Bank___init__
  b0_Bank___init__ : Binds K d_Bank___init__ ["self", "room"] []
  a_Bank_place : Addr
  d_Bank_place : FuncData
  h_Bank_place : L2.Fun K "place" "Bank.place" s_Bank_place a_Bank_place d_Bank_place
  b0_Bank_place : Binds K d_Bank_place ["self", "term"] []
  a_Bank_find : Addr
  d_Bank_find : FuncData
  h_Bank_find : L2.Fun K "find" "Bank.find" s_Bank_find a_Bank_find d_Bank_find
  b0_Bank_find : Binds K d_Bank_find ["self", "tree"] []
  a_Bank_hold : Addr
  d_Bank_hold : FuncData
  h_Bank_hold : L2.Fun K "hold" "Bank.hold" s_Bank_hold a_Bank_hold d_Bank_hold
  b0_Bank_hold : Binds K d_Bank_hold ["self", "term"] []
  a_Bank_put_part : Addr
  d_Bank_put_part : FuncData
  h_Bank_put_part : L2.Fun K "put_part" "Bank.put_part" s_Bank_put_part a_Bank_put_part d_Bank_put_part
  b0_Bank_put_part : Binds K d_Bank_put_part ["self", "pattern", "binds"] []
  a_Bank_put : Addr
  d_Bank_put : FuncData
  h_Bank_put : L2.FunD K "put" "Bank.put" (defArgs s_Bank_put) (defBody s_Bank_put) (defScope s_Bank_put) [.non] [] a_Bank_put d_Bank_put
  a_L_at : Addr
  d_L_at : FuncData
  h_L_at : L2.Fun K "_law_at" "_law_at" s_L_at a_L_at d_L_at
  b0_L_at : Binds K d_L_at ["_law_script", "_law_k"] []
  m_L_at : mg "_law_at" = some (.ref a_L_at)
  a_L_held : Addr
  d_L_held : FuncData
  h_L_held : L2.Fun K "_law_held" "_law_held" s_L_held a_L_held d_L_held
  b0_L_held : Binds K d_L_held ["_law_rows", "_law_term"] []
  m_L_held : mg "_law_held" = some (.ref a_L_held)
  a_L_find : Addr
  d_L_find : FuncData
  h_L_find : L2.Fun K "_law_find" "_law_find" s_L_find a_L_find d_L_find
  b0_L_find : Binds K d_L_find ["_law_rows", "_law_tree"] []
  m_L_find : mg "_law_find" = some (.ref a_L_find)
  a_L_put : Addr
  d_L_put : FuncData
  h_L_put : L2.Fun K "_law_put" "_law_put" s_L_put a_L_put d_L_put
  b0_L_put : Binds K d_L_put ["_law_rows", "_law_tree"] []
  m_L_put : mg "_law_put" = some (.ref a_L_put)
  a_L_same : Addr
  d_L_same : FuncData
  h_L_same : L2.Fun K "_law_same" "_law_same" s_L_same a_L_same d_L_same
  b0_L_same : Binds K d_L_same ["_law_found", "_law_due"] []
  m_L_same : mg "_law_same" = some (.ref a_L_same)
  a_L_draw : Addr
  d_L_draw : FuncData
  h_L_draw : L2.Fun K "_law_draw" "_law_draw" s_L_draw a_L_draw d_L_draw
  b0_L_draw : Binds K d_L_draw ["_law_cell", "_law_factor", "_law_many"] []
  m_L_draw : mg "_law_draw" = some (.ref a_L_draw)
  a_L_word_3 : Addr
  d_L_word_3 : FuncData
  h_L_word_3 : L2.Fun K "_law_word" "_law_word" s_L_word_3 a_L_word_3 d_L_word_3
  b0_L_word_3 : Binds K d_L_word_3 ["_law_script", "_law_which"] []
  m_L_word_3 : mg "_law_word" = some (.ref a_L_word_3)
  a_L_leaf_4 : Addr
  d_L_leaf_4 : FuncData
  h_L_leaf_4 : L2.Fun K "_law_leaf" "_law_leaf" s_L_leaf_4 a_L_leaf_4 d_L_leaf_4
  b0_L_leaf_4 : Binds K d_L_leaf_4 ["_law_script", "_law_cell"] []
  m_L_leaf_4 : mg "_law_leaf" = some (.ref a_L_leaf_4)
  a_L_trees : Addr
  d_L_trees : FuncData
  h_L_trees : L2.Fun K "_law_trees" "_law_trees" s_L_trees a_L_trees d_L_trees
  b0_L_trees : Binds K d_L_trees ["_law_script", "_law_most"] []
  m_L_trees : mg "_law_trees" = some (.ref a_L_trees)
  a_law_k11 : Addr
  d_law_k11 : FuncData
  h_law_k11 : L2.Fun K "law" "law" s_law_k11 a_law_k11 d_law_k11
  b0_law_k11 : Binds K d_law_k11 ["_law_script"] []
  m_law_k11 : mg "law" = some (.ref a_law_k11)
  z_enumerate : mg "enumerate" = none
  z_tuple : mg "tuple" = none
  z_len : mg "len" = none
  z_range : mg "range" = none
  z_isinstance : mg "isinstance" = none
  z_int : mg "int" = none
  z_bool : mg "bool" = none
  z_max : mg "max" = none
  z_sum : mg "sum" = none
  z_list : mg "list" = none
  z_reversed : mg "reversed" = none
  c_Bank : Addr
  m_Bank : mg "Bank" = some (.ref c_Bank)
  xcl_Bank : L2.Cls K c_Bank
  xna_Bank_terms : L2.NoAttr K c_Bank "terms"
  xna_Bank_room : L2.NoAttr K c_Bank "room"
  xmt_Bank_place : L2.Meth K c_Bank "place" a_Bank_place
  xmt_Bank_find : L2.Meth K c_Bank "find" a_Bank_find
  xmt_Bank_hold : L2.Meth K c_Bank "hold" a_Bank_hold
  xmt_Bank_put_part : L2.Meth K c_Bank "put_part" a_Bank_put_part
  xmt_Bank_put : L2.Meth K c_Bank "put" a_Bank_put
  xmk_Bank : L2.Mk K c_Bank a_Bank___init__
section
variable {P : Program} {w : World} {K : PySem.W.Frag} {mg : Str → Option Value} {base : Heap}
def Txt.ca (T : Txt K mg) : String → Addr := fun n => if n = "Bank" then T.c_Bank else 0
theorem Txt.ca_Bank (T : Txt K mg) : T.ca "Bank" = T.c_Bank := by unfold Txt.ca; simp
theorem Txt.cl_Bank (T : Txt K mg) : L2.Cls K (T.ca "Bank") := by rw [T.ca_Bank]; exact T.xcl_Bank
theorem Txt.mc_Bank (T : Txt K mg) : mg "Bank" = some (.ref (T.ca "Bank")) := by rw [T.ca_Bank]; exact T.m_Bank
theorem Txt.na_Bank_terms (T : Txt K mg) : L2.NoAttr K (T.ca "Bank") "terms" := by rw [T.ca_Bank]; exact T.xna_Bank_terms
theorem Txt.na_Bank_room (T : Txt K mg) : L2.NoAttr K (T.ca "Bank") "room" := by rw [T.ca_Bank]; exact T.xna_Bank_room
theorem Txt.mt_Bank_place (T : Txt K mg) : L2.Meth K (T.ca "Bank") "place" T.a_Bank_place := by rw [T.ca_Bank]; exact T.xmt_Bank_place
theorem Txt.mt_Bank_find (T : Txt K mg) : L2.Meth K (T.ca "Bank") "find" T.a_Bank_find := by rw [T.ca_Bank]; exact T.xmt_Bank_find
theorem Txt.mt_Bank_hold (T : Txt K mg) : L2.Meth K (T.ca "Bank") "hold" T.a_Bank_hold := by rw [T.ca_Bank]; exact T.xmt_Bank_hold
theorem Txt.mt_Bank_put_part (T : Txt K mg) : L2.Meth K (T.ca "Bank") "put_part" T.a_Bank_put_part := by rw [T.ca_Bank]; exact T.xmt_Bank_put_part
theorem Txt.mt_Bank_put (T : Txt K mg) : L2.Meth K (T.ca "Bank") "put" T.a_Bank_put := by rw [T.ca_Bank]; exact T.xmt_Bank_put
theorem Txt.mk_Bank (T : Txt K mg) : L2.Mk K (T.ca "Bank") T.a_Bank___init__ := by rw [T.ca_Bank]; exact T.xmk_Bank
theorem Txt.b_Bank___init__ (T : Txt K mg) : Bnd K T.ca T.d_Bank___init__ ["self", "room"] [] := Bnd.nil T.b0_Bank___init__
theorem Txt.b_Bank_place (T : Txt K mg) : Bnd K T.ca T.d_Bank_place ["self", "term"] [] := Bnd.nil T.b0_Bank_place
theorem Txt.b_Bank_find (T : Txt K mg) : Bnd K T.ca T.d_Bank_find ["self", "tree"] [] := Bnd.nil T.b0_Bank_find
theorem Txt.b_Bank_hold (T : Txt K mg) : Bnd K T.ca T.d_Bank_hold ["self", "term"] [] := Bnd.nil T.b0_Bank_hold
theorem Txt.b_Bank_put_part (T : Txt K mg) : Bnd K T.ca T.d_Bank_put_part ["self", "pattern", "binds"] [] := Bnd.nil T.b0_Bank_put_part
theorem Txt.b1_Bank_put (T : Txt K mg) : Bnd K T.ca T.d_Bank_put ["self", "pattern", "binds"] [.non] := bnd_D (L2.FunD.binds1 T.h_Bank_put 2 0 (by simp) rfl fun _ _ _ _ _ _ _ us its h1 h2 => match us, its, h1, h2 with | [_, _], [_], _, _ => ⟨_, rfl, rfl⟩) fun _ _ => (.cons .non .nil)
theorem Txt.b_L_at (T : Txt K mg) : Bnd K T.ca T.d_L_at ["_law_script", "_law_k"] [] := Bnd.nil T.b0_L_at
theorem Txt.b_L_held (T : Txt K mg) : Bnd K T.ca T.d_L_held ["_law_rows", "_law_term"] [] := Bnd.nil T.b0_L_held
theorem Txt.b_L_find (T : Txt K mg) : Bnd K T.ca T.d_L_find ["_law_rows", "_law_tree"] [] := Bnd.nil T.b0_L_find
theorem Txt.b_L_put (T : Txt K mg) : Bnd K T.ca T.d_L_put ["_law_rows", "_law_tree"] [] := Bnd.nil T.b0_L_put
theorem Txt.b_L_same (T : Txt K mg) : Bnd K T.ca T.d_L_same ["_law_found", "_law_due"] [] := Bnd.nil T.b0_L_same
theorem Txt.b_L_draw (T : Txt K mg) : Bnd K T.ca T.d_L_draw ["_law_cell", "_law_factor", "_law_many"] [] := Bnd.nil T.b0_L_draw
theorem Txt.b_L_word_3 (T : Txt K mg) : Bnd K T.ca T.d_L_word_3 ["_law_script", "_law_which"] [] := Bnd.nil T.b0_L_word_3
theorem Txt.b_L_leaf_4 (T : Txt K mg) : Bnd K T.ca T.d_L_leaf_4 ["_law_script", "_law_cell"] [] := Bnd.nil T.b0_L_leaf_4
theorem Txt.b_L_trees (T : Txt K mg) : Bnd K T.ca T.d_L_trees ["_law_script", "_law_most"] [] := Bnd.nil T.b0_L_trees
theorem Txt.b_law_k11 (T : Txt K mg) : Bnd K T.ca T.d_law_k11 ["_law_script"] [] := Bnd.nil T.b0_law_k11
theorem c_Bank___init__ (T : Txt K mg) : Cal P w K mg base T.ca 1 T.a_Bank___init__ T.d_Bank___init__ ["self", "room"] F_Bank___init__ :=
  cal_mk (k := 0) (body := b_Bank___init__) T.h_Bank___init__ sc_Bank___init__ rfl fun cdv A outer s H E hr tk hp =>
    (jss_cons (js_fld (c := "Bank") T.cl_Bank T.na_Bank_room (je_v 1) (je_v 0) (by rfl))
      (jss_one (js_fld (c := "Bank") T.cl_Bank T.na_Bank_terms (je_lst ja_nil) (je_v 0) (by rfl))))
theorem c_Bank_place (T : Txt K mg) : Cal P w K mg base T.ca 1 T.a_Bank_place T.d_Bank_place ["self", "term"] F_Bank_place :=
  cal_mk (k := 0) (body := b_Bank_place) T.h_Bank_place sc_Bank_place rfl fun cdv A outer s H E hr tk hp =>
    (jss_cons (js_for hp rfl (ji_enum T.z_enumerate (ja_cons (je_fld (c := "Bank") T.cl_Bank T.na_Bank_terms (je_v 0)) ja_nil)) (jg_tup rfl (jgs_cons (jg_name (i := 2) sc_Bank_place.nd) (jgs_cons (jg_name (i := 3) sc_Bank_place.nd) jgs_nil))) (jss_one (js_if (jt_cmp (of_eq (hu64 hr)) (je_v 3) (je_v 1) (nomark _)) (jss_one (js_ret (je_v 2))) jss_nil)))
      (jss_one (js_ret je_non)))
theorem c_Bank_find (T : Txt K mg) : ∀ n, Cal P w K mg base T.ca (1 + n) T.a_Bank_find T.d_Bank_find ["self", "tree"] (F_Bank_find n)
  | 0 => Cal.mono (cal_0 T.h_Bank_find.kp) (Nat.zero_le _)
  | n + 1 =>
    have C_Bank_find := c_Bank_find T n
    cal_mk (k := 1 + n) (body := b_Bank_find (F_Bank_find n)) T.h_Bank_find sc_Bank_find rfl fun cdv A outer s H E hr tk hp =>
    (jss_cons (js_if (jt_cmp (of_ne (hu64 hr)) (je_ix ix_any (je_v 1) je_int) je_str (nomark _)) (jss_one (js_ret (je_meth (c := "Bank") tk T.cl_Bank T.mt_Bank_place (c_Bank_place T) T.b_Bank_place (hr.mono (by omega)) (je_v 0) (ja_cons (je_v 1) ja_nil)))) jss_nil)
      (jss_cons (js_set (i := 2) sc_Bank_find.nd (je_lst ja_nil))
      (jss_cons (js_for hp rfl (ji_seq (je_ix ix_any (je_v 1) je_int)) (jg_name (i := 3) sc_Bank_find.nd) (jss_cons (js_set (i := 4) sc_Bank_find.nd (je_meth (c := "Bank") tk T.cl_Bank T.mt_Bank_find C_Bank_find T.b_Bank_find hr (je_v 0) (ja_cons (je_v 3) ja_nil)))
      (jss_cons (js_if (jt_cmp of_isN (je_v 4) je_non (nomark _)) (jss_one (js_ret je_non)) jss_nil)
      (jss_one (js_expr (je_bm PySem.F.plainAttrs_list PySem.F.slot_list_append PySem.F.type_list_append bm_append (je_v 2) (ja_cons (je_v 4) ja_nil)))))))
      (jss_one (js_ret (je_meth (c := "Bank") tk T.cl_Bank T.mt_Bank_place (c_Bank_place T) T.b_Bank_place (hr.mono (by omega)) (je_v 0) (ja_cons (je_tup (ja_cons je_str (ja_cons (je_ix ix_any (je_v 1) je_int) (ja_cons (je_callTy cb_tuple T.z_tuple (by decide +kernel) (ja_cons (je_v 2) ja_nil)) ja_nil)))) ja_nil)))))))
theorem c_Bank_hold (T : Txt K mg) : Cal P w K mg base T.ca 2 T.a_Bank_hold T.d_Bank_hold ["self", "term"] F_Bank_hold :=
  cal_mk (k := 1) (body := b_Bank_hold) T.h_Bank_hold sc_Bank_hold rfl fun cdv A outer s H E hr tk hp =>
    (jss_cons (js_set (i := 2) sc_Bank_hold.nd (je_meth (c := "Bank") tk T.cl_Bank T.mt_Bank_place (c_Bank_place T) T.b_Bank_place (hr.mono (by omega)) (je_v 0) (ja_cons (je_v 1) ja_nil)))
      (jss_cons (js_if (jt_cmp of_notN (je_v 2) je_non (nomark _)) (jss_one (js_ret (je_v 2))) jss_nil)
      (jss_cons (js_if (jt_cmp of_ge (je_callB cb_len T.z_len (by decide +kernel) (ja_cons (je_fld (c := "Bank") T.cl_Bank T.na_Bank_terms (je_v 0)) ja_nil)) (je_fld (c := "Bank") T.cl_Bank T.na_Bank_room (je_v 0)) (nomark _)) (jss_one js_no) jss_nil)
      (jss_cons (js_expr (je_bm PySem.F.plainAttrs_list PySem.F.slot_list_append PySem.F.type_list_append bm_append (je_fld (c := "Bank") T.cl_Bank T.na_Bank_terms (je_v 0)) (ja_cons (je_v 1) ja_nil)))
      (jss_one (js_ret (je_op of_sub (je_callB cb_len T.z_len (by decide +kernel) (ja_cons (je_fld (c := "Bank") T.cl_Bank T.na_Bank_terms (je_v 0)) ja_nil)) je_int)))))))
theorem c_Bank_put_part (T : Txt K mg) : ∀ n, Cal P w K mg base T.ca (2 + n) T.a_Bank_put_part T.d_Bank_put_part ["self", "pattern", "binds"] (F_Bank_put_part n)
  | 0 => Cal.mono (cal_0 T.h_Bank_put_part.kp) (Nat.zero_le _)
  | n + 1 =>
    have C_Bank_put_part := c_Bank_put_part T n
    cal_mk (k := 2 + n) (body := b_Bank_put_part (F_Bank_put_part n)) T.h_Bank_put_part sc_Bank_put_part rfl fun cdv A outer s H E hr tk hp =>
    (jss_cons (js_if (jt_cmp (of_eq (hu64 hr)) (je_ix ix_any (je_v 1) je_int) je_str (nomark _)) (jss_one (js_ret (je_ix ix_any (je_v 2) (je_ix ix_any (je_v 1) je_int)))) jss_nil)
      (jss_cons (js_if (jt_cmp (of_ne (hu64 hr)) (je_ix ix_any (je_v 1) je_int) je_str (nomark _)) (jss_one (js_ret (je_meth (c := "Bank") tk T.cl_Bank T.mt_Bank_hold (c_Bank_hold T) T.b_Bank_hold (hr.mono (by omega)) (je_v 0) (ja_cons (je_v 1) ja_nil)))) jss_nil)
      (jss_cons (js_set (i := 3) sc_Bank_put_part.nd (je_lst ja_nil))
      (jss_cons (js_for hp rfl (ji_seq (je_ix ix_any (je_v 1) je_int)) (jg_name (i := 4) sc_Bank_put_part.nd) (jss_one (js_expr (je_bm PySem.F.plainAttrs_list PySem.F.slot_list_append PySem.F.type_list_append bm_append (je_v 3) (ja_cons (je_meth (c := "Bank") tk T.cl_Bank T.mt_Bank_put_part C_Bank_put_part T.b_Bank_put_part hr (je_v 0) (ja_cons (je_v 4) (ja_cons (je_v 2) ja_nil))) ja_nil)))))
      (jss_one (js_ret (je_meth (c := "Bank") tk T.cl_Bank T.mt_Bank_hold (c_Bank_hold T) T.b_Bank_hold (hr.mono (by omega)) (je_v 0) (ja_cons (je_tup (ja_cons je_str (ja_cons (je_ix ix_any (je_v 1) je_int) (ja_cons (je_callTy cb_tuple T.z_tuple (by decide +kernel) (ja_cons (je_v 3) ja_nil)) ja_nil)))) ja_nil))))))))
theorem c_Bank_put (T : Txt K mg) : Cal P w K mg base T.ca 35 T.a_Bank_put T.d_Bank_put ["self", "pattern", "binds"] F_Bank_put :=
  cal_mkD (k := 34) (body := b_Bank_put) T.h_Bank_put sc_Bank_put rfl fun cdv A outer s H E hr tk hp =>
    (jss_cons (js_set (i := 3) sc_Bank_put.nd (je_callB cb_len T.z_len (by decide +kernel) (ja_cons (je_fld (c := "Bank") T.cl_Bank T.na_Bank_terms (je_v 0)) ja_nil)))
      (jss_one (js_thru (jss_one (js_set (i := 4) sc_Bank_put.nd (je_meth (c := "Bank") takes0 T.cl_Bank T.mt_Bank_put_part (c_Bank_put_part T 32) T.b_Bank_put_part (hr.mono (by omega)) (je_v 0) (ja_cons (je_v 1) (ja_cons (je_v 2) ja_nil))))) (jss_one (js_ret (je_v 4))))))
theorem c_L_at (T : Txt K mg) : Cal P w K mg base T.ca 1 T.a_L_at T.d_L_at ["_law_script", "_law_k"] F_L_at :=
  cal_mk (k := 0) (body := b_L_at) T.h_L_at sc_L_at rfl fun cdv A outer s H E hr tk hp =>
    (jss_cons (js_if (jt_cmp of_lt (je_v 1) (je_callB cb_len T.z_len (by decide +kernel) (ja_cons (je_v 0) ja_nil)) (nomark _)) (jss_one (js_ret (je_ix ix_any (je_v 0) (je_v 1)))) jss_nil)
      (jss_one (js_ret je_int)))
theorem c_L_held (T : Txt K mg) : Cal P w K mg base T.ca 1 T.a_L_held T.d_L_held ["_law_rows", "_law_term"] F_L_held :=
  cal_mk (k := 0) (body := b_L_held) T.h_L_held sc_L_held rfl fun cdv A outer s H E hr tk hp =>
    (jss_cons (js_for hp rfl (ji_rng1 T.z_range (ja_cons (je_callB cb_len T.z_len (by decide +kernel) (ja_cons (je_v 0) ja_nil)) ja_nil)) (jg_name (i := 2) sc_L_held.nd) (jss_one (js_if (jt_cmp (of_eq (hu64 hr)) (je_ix ix_any (je_v 0) (je_v 2)) (je_v 1) (nomark _)) (jss_one (js_ret (je_v 2))) jss_nil)))
      (jss_one (js_ret je_non)))
theorem c_L_find (T : Txt K mg) : ∀ n, Cal P w K mg base T.ca (1 + n) T.a_L_find T.d_L_find ["_law_rows", "_law_tree"] (F_L_find n)
  | 0 => Cal.mono (cal_0 T.h_L_find.kp) (Nat.zero_le _)
  | n + 1 =>
    have C_L_find := c_L_find T n
    cal_mk (k := 1 + n) (body := b_L_find (F_L_find n)) T.h_L_find sc_L_find rfl fun cdv A outer s H E hr tk hp =>
    (jss_cons (js_if (jt_cmp (of_ne (hu64 hr)) (je_ix ix_any (je_v 1) je_int) je_str (nomark _)) (jss_one (js_ret (je_call tk (c_L_held T) T.b_L_held (hr.mono (by omega)) T.m_L_held (ja_cons (je_v 0) (ja_cons (je_v 1) ja_nil))))) jss_nil)
      (jss_cons (js_lc (i := 2) (own := [(("_law_arm" : Str), 3)]) rfl sc_L_find.nd rfl rfl (sw_true rfl rfl rfl (by decide +kernel)) (ji_seq (je_ix ix_any (je_v 1) je_int)) (blkOk_by (own := [(("_law_arm" : Str), 3)]) (N := ["_law_rows", "_law_tree", "_law_arms", "_law_arm"]) (sc := defScope s_L_find) (by decide +kernel)) (by decide) (fun _ _ _ _ _ => (jg_name (i := 3) sc_L_find.nd)) (fun _ _ _ _ _ => jts_nil) (fun _ _ _ _ _ => (je_call takes0 C_L_find T.b_L_find hr T.m_L_find (ja_cons (je_v 0) (ja_cons (je_v 3) ja_nil)))))
      (jss_cons (js_if (jt_cmp (of_in (hu65 hr)) je_non (je_v 2) (by rfl)) (jss_one (js_ret je_non)) jss_nil)
      (jss_one (js_ret (je_call tk (c_L_held T) T.b_L_held (hr.mono (by omega)) T.m_L_held (ja_cons (je_v 0) (ja_cons (je_tup (ja_cons je_str (ja_cons (je_ix ix_any (je_v 1) je_int) (ja_cons (je_callTy cb_tuple T.z_tuple (by decide +kernel) (ja_cons (je_v 2) ja_nil)) ja_nil)))) ja_nil))))))))
theorem c_L_put (T : Txt K mg) : ∀ n, Cal P w K mg base T.ca (1 + n) T.a_L_put T.d_L_put ["_law_rows", "_law_tree"] (F_L_put n)
  | 0 => Cal.mono (cal_0 T.h_L_put.kp) (Nat.zero_le _)
  | n + 1 =>
    have C_L_put := c_L_put T n
    cal_mk (k := 1 + n) (body := b_L_put (F_L_put n)) T.h_L_put sc_L_put rfl fun cdv A outer s H E hr tk hp =>
    (jss_cons (js_if (jt_cmp (of_eq (hu64 hr)) (je_ix ix_any (je_v 1) je_int) je_str (nomark _)) (jss_one (js_set (i := 1) sc_L_put.nd (je_tup (ja_cons je_str (ja_cons (je_ix ix_any (je_v 1) je_int) (ja_cons (je_callTy cb_tuple T.z_tuple (by decide +kernel) (ja_cons (je_lc (own := [(("_law_arm" : Str), 2)]) rfl sc_L_put.nd (ji_seq (je_ix ix_any (je_v 1) je_int)) (blkOk_by (own := [(("_law_arm" : Str), 2)]) (N := ["_law_rows", "_law_tree", "_law_arm"]) (sc := defScope s_L_put) (by decide +kernel)) (by decide) (fun _ _ _ _ _ => (jg_name (i := 2) sc_L_put.nd)) (fun _ _ _ _ _ => jts_nil) (fun _ _ _ _ _ => (je_call takes0 C_L_put T.b_L_put hr T.m_L_put (ja_cons (je_v 0) (ja_cons (je_v 2) ja_nil))))) ja_nil)) ja_nil)))))) jss_nil)
      (jss_cons (js_if (jt_cmp of_isN (je_call tk (c_L_held T) T.b_L_held (hr.mono (by omega)) T.m_L_held (ja_cons (je_v 0) (ja_cons (je_v 1) ja_nil))) je_non (nomark _)) (jss_one (js_expr (je_bm PySem.F.plainAttrs_list PySem.F.slot_list_append PySem.F.type_list_append bm_append (je_v 0) (ja_cons (je_v 1) ja_nil)))) jss_nil)
      (jss_one (js_ret (je_call tk (c_L_held T) T.b_L_held (hr.mono (by omega)) T.m_L_held (ja_cons (je_v 0) (ja_cons (je_v 1) ja_nil)))))))
theorem c_L_same (T : Txt K mg) : Cal P w K mg base T.ca 1 T.a_L_same T.d_L_same ["_law_found", "_law_due"] F_L_same :=
  cal_mk (k := 0) (body := b_L_same) T.h_L_same sc_L_same rfl fun cdv A outer s H E hr tk hp =>
    (jss_cons (js_if (jt_cmp of_isN (je_v 1) je_non (nomark _)) (jss_one (js_ret (je_cmp of_isN (je_v 0) je_non (nomark _)))) jss_nil)
      (jss_one (js_ret (je_and (je_callB cb_isi T.z_isinstance (by decide +kernel) (ja_cons (je_v 0) (ja_cons (je_ty (by rfl) T.z_int (by decide +kernel)) ja_nil))) (je_and (je_not (je_callB cb_isi T.z_isinstance (by decide +kernel) (ja_cons (je_v 0) (ja_cons (je_ty (by rfl) T.z_bool (by decide +kernel)) ja_nil)))) (je_one (je_cmp (of_eq (hu64 hr)) (je_v 0) (je_v 1) (nomark _))))))))
theorem c_L_draw (T : Txt K mg) : Cal P w K mg base T.ca 1 T.a_L_draw T.d_L_draw ["_law_cell", "_law_factor", "_law_many"] F_L_draw :=
  cal_mk (k := 0) (body := b_L_draw) T.h_L_draw sc_L_draw rfl fun cdv A outer s H E hr tk hp =>
    (jss_one (js_ret (je_op of_mod (je_op of_fdiv (je_op of_mod (je_op of_mul (je_op of_add (je_op of_mod (je_v 0) je_int) je_int) (je_v 1)) je_int) je_int) (je_v 2))))
theorem c_L_word_3 (T : Txt K mg) : Cal P w K mg base T.ca 2 T.a_L_word_3 T.d_L_word_3 ["_law_script", "_law_which"] F_L_word_3 :=
  cal_mk (k := 1) (body := b_L_word_3) T.h_L_word_3 sc_L_word_3 rfl fun cdv A outer s H E hr tk hp =>
    (jss_cons (js_set (i := 2) sc_L_word_3.nd je_str)
      (jss_cons (js_set (i := 3) sc_L_word_3.nd (je_call tk (c_L_at T) T.b_L_at (hr.mono (by omega)) T.m_L_at (ja_cons (je_v 0) (ja_cons je_int ja_nil))))
      (jss_cons (js_set (i := 4) sc_L_word_3.nd (je_op of_add je_int (je_op of_mod (je_v 3) je_int)))
      (jss_cons (js_set (i := 5) sc_L_word_3.nd (je_op of_mod (je_op of_fdiv (je_v 3) je_int) (je_v 4)))
      (jss_cons (js_set (i := 6) sc_L_word_3.nd (je_ix ix_any (je_v 2) (je_op of_mod (je_op of_fdiv (je_v 3) je_int) je_int)))
      (jss_cons (js_set (i := 7) sc_L_word_3.nd (je_ix ix_any (je_v 2) (je_op of_mod (je_op of_add (je_op of_fdiv (je_v 3) je_int) (je_v 1)) je_int)))
      (jss_one (js_ret (je_op of_add (je_op of_add (je_op of_mul (je_v 6) (je_v 5)) (je_v 7)) (je_op of_mul (je_v 6) (je_op of_sub (je_op of_sub (je_v 4) je_int) (je_v 5))))))))))))
theorem c_L_leaf_4 (T : Txt K mg) : Cal P w K mg base T.ca 3 T.a_L_leaf_4 T.d_L_leaf_4 ["_law_script", "_law_cell"] F_L_leaf_4 :=
  cal_mk (k := 2) (body := b_L_leaf_4) T.h_L_leaf_4 sc_L_leaf_4 rfl fun cdv A outer s H E hr tk hp =>
    (jss_cons (js_set (i := 2) sc_L_leaf_4.nd (je_call tk (c_L_draw T) T.b_L_draw (hr.mono (by omega)) T.m_L_draw (ja_cons (je_v 1) (ja_cons je_int (ja_cons je_int ja_nil)))))
      (jss_cons (js_if (jt_cmp (of_eq (hu64 hr)) (je_v 2) je_int (nomark _)) (jss_one (js_ret (je_tup (ja_cons je_str (ja_cons (je_op of_sub (je_op of_mod (je_v 1) (je_op of_sub (je_op of_mul je_int (je_op of_pow je_int je_int)) je_int)) (je_op of_sub (je_op of_pow je_int je_int) je_int)) ja_nil))))) jss_nil)
      (jss_cons (js_if (jt_cmp (of_eq (hu64 hr)) (je_v 2) je_int (nomark _)) (jss_one (js_ret (je_tup (ja_cons je_str (ja_cons (je_op of_sub (je_call tk (c_L_draw T) T.b_L_draw (hr.mono (by omega)) T.m_L_draw (ja_cons (je_v 1) (ja_cons je_int (ja_cons je_int ja_nil)))) je_int) ja_nil))))) jss_nil)
      (jss_one (js_ret (je_tup (ja_cons je_str (ja_cons (je_call tk (c_L_word_3 T) T.b_L_word_3 (hr.mono (by omega)) T.m_L_word_3 (ja_cons (je_v 0) (ja_cons (je_call tk (c_L_draw T) T.b_L_draw (hr.mono (by omega)) T.m_L_draw (ja_cons (je_v 1) (ja_cons je_int (ja_cons je_int ja_nil)))) ja_nil))) ja_nil))))))))
theorem c_L_trees (T : Txt K mg) : Cal P w K mg base T.ca 4 T.a_L_trees T.d_L_trees ["_law_script", "_law_most"] F_L_trees :=
  cal_mk (k := 3) (body := b_L_trees) T.h_L_trees sc_L_trees rfl fun cdv A outer s H E hr tk hp =>
    (jss_cons (js_set (i := 2) sc_L_trees.nd (je_lst ja_nil))
      (jss_cons (js_for hp rfl (ji_seq (je_sl (je_lc (own := [(("_law_k" : Str), 10)]) rfl sc_L_trees.nd (ji_rng1 T.z_range (ja_cons (je_callB cb_len T.z_len (by decide +kernel) (ja_cons (je_v 0) ja_nil)) ja_nil)) (blkOk_by (own := [(("_law_k" : Str), 10)]) (N := ["_law_script", "_law_most", "_law_rows", "_law_cell", "_law_size", "_law_arms", "_law_word_here", "_law_many", "_law_deep", "_law_row", "_law_k", "_law_j", "_law_arm"]) (sc := defScope s_L_trees) (by decide +kernel)) (by decide) (fun _ _ _ _ _ => (jg_name (i := 10) sc_L_trees.nd)) (fun _ _ _ _ _ => (jts_one (jt_cmp (of_eq (hu64 hr)) (je_op of_mod (je_v 10) je_int) je_int (nomark _)))) (fun _ _ _ _ _ => (je_ix ix_any (je_v 0) (je_v 10)))) jo_none (jo_some je_int))) (jg_name (i := 3) sc_L_trees.nd) (jss_one (js_if (JW.jt (jw_or (jt_cmp (of_eq (hu64 hr)) (je_v 2) (je_lst ja_nil) (nomark _)) (jw_or1 (jt_cmp of_lt (je_call tk (c_L_draw T) T.b_L_draw (hr.mono (by omega)) T.m_L_draw (ja_cons (je_v 3) (ja_cons je_int (ja_cons je_int ja_nil)))) je_int (nomark _))))) (jss_one (js_expr (je_bm PySem.F.plainAttrs_list PySem.F.slot_list_append PySem.F.type_list_append bm_append (je_v 2) (ja_cons (je_tup (ja_cons (je_call tk (c_L_leaf_4 T) T.b_L_leaf_4 (hr.mono (by omega)) T.m_L_leaf_4 (ja_cons (je_v 0) (ja_cons (je_v 3) ja_nil))) (ja_cons je_int (ja_cons je_int ja_nil)))) ja_nil)))) (jss_cons (js_set (i := 4) sc_L_trees.nd (je_op of_add je_int (je_op of_fdiv (je_call tk (c_L_draw T) T.b_L_draw (hr.mono (by omega)) T.m_L_draw (ja_cons (je_v 3) (ja_cons je_int (ja_cons je_int ja_nil)))) je_int)))
      (jss_cons (js_lc (i := 5) (own := [(("_law_j" : Str), 11)]) rfl sc_L_trees.nd rfl rfl (sw_true rfl rfl rfl (by decide +kernel)) (ji_rng1 T.z_range (ja_cons (je_v 4) ja_nil)) (blkOk_by (own := [(("_law_j" : Str), 11)]) (N := ["_law_script", "_law_most", "_law_rows", "_law_cell", "_law_size", "_law_arms", "_law_word_here", "_law_many", "_law_deep", "_law_row", "_law_k", "_law_j", "_law_arm"]) (sc := defScope s_L_trees) (by decide +kernel)) (by decide) (fun _ _ _ _ _ => (jg_name (i := 11) sc_L_trees.nd)) (fun _ _ _ _ _ => jts_nil) (fun _ _ _ _ _ => (je_ix ix_any (je_v 2) (je_call takes0 (c_L_draw T) T.b_L_draw (hr.mono (by omega)) T.m_L_draw (ja_cons (je_v 3) (ja_cons (je_op of_mul (je_op of_add (je_v 11) je_int) je_int) (ja_cons (je_callB cb_len T.z_len (by decide +kernel) (ja_cons (je_v 2) ja_nil)) ja_nil)))))))
      (jss_cons (js_set (i := 6) sc_L_trees.nd (je_call tk (c_L_word_3 T) T.b_L_word_3 (hr.mono (by omega)) T.m_L_word_3 (ja_cons (je_v 0) (ja_cons (je_call tk (c_L_draw T) T.b_L_draw (hr.mono (by omega)) T.m_L_draw (ja_cons (je_v 3) (ja_cons je_int (ja_cons je_int ja_nil)))) ja_nil))))
      (jss_cons (js_set (i := 7) sc_L_trees.nd (je_op of_add je_int (je_callB (cb_sum rfl) T.z_sum (by decide +kernel) (ja_cons (je_lc (own := [(("_law_arm" : Str), 12)]) rfl sc_L_trees.nd (ji_seq (je_v 5)) (blkOk_by (own := [(("_law_arm" : Str), 12)]) (N := ["_law_script", "_law_most", "_law_rows", "_law_cell", "_law_size", "_law_arms", "_law_word_here", "_law_many", "_law_deep", "_law_row", "_law_k", "_law_j", "_law_arm"]) (sc := defScope s_L_trees) (by decide +kernel)) (by decide) (fun _ _ _ _ _ => (jg_name (i := 12) sc_L_trees.nd)) (fun _ _ _ _ _ => jts_nil) (fun _ _ _ _ _ => (je_ix ix_any (je_v 12) je_int))) ja_nil))))
      (jss_cons (js_set (i := 8) sc_L_trees.nd (je_op of_add je_int (je_callB (cb_max rfl) T.z_max (by decide +kernel) (ja_cons (je_lc (own := [(("_law_arm" : Str), 12)]) rfl sc_L_trees.nd (ji_seq (je_v 5)) (blkOk_by (own := [(("_law_arm" : Str), 12)]) (N := ["_law_script", "_law_most", "_law_rows", "_law_cell", "_law_size", "_law_arms", "_law_word_here", "_law_many", "_law_deep", "_law_row", "_law_k", "_law_j", "_law_arm"]) (sc := defScope s_L_trees) (by decide +kernel)) (by decide) (fun _ _ _ _ _ => (jg_name (i := 12) sc_L_trees.nd)) (fun _ _ _ _ _ => jts_nil) (fun _ _ _ _ _ => (je_ix ix_any (je_v 12) je_int))) ja_nil))))
      (jss_one (js_if (JW.jt (jw_and (jt_cmp of_le (je_v 7) (je_v 1) (nomark _)) (jw_and1 (jt_cmp of_le (je_v 8) je_int (nomark _))))) (jss_one (js_expr (je_bm PySem.F.plainAttrs_list PySem.F.slot_list_append PySem.F.type_list_append bm_append (je_v 2) (ja_cons (je_tup (ja_cons (je_tup (ja_cons je_str (ja_cons (je_v 6) (ja_cons (je_callTy cb_tuple T.z_tuple (by decide +kernel) (ja_cons (je_lc (own := [(("_law_arm" : Str), 12)]) rfl sc_L_trees.nd (ji_seq (je_v 5)) (blkOk_by (own := [(("_law_arm" : Str), 12)]) (N := ["_law_script", "_law_most", "_law_rows", "_law_cell", "_law_size", "_law_arms", "_law_word_here", "_law_many", "_law_deep", "_law_row", "_law_k", "_law_j", "_law_arm"]) (sc := defScope s_L_trees) (by decide +kernel)) (by decide) (fun _ _ _ _ _ => (jg_name (i := 12) sc_L_trees.nd)) (fun _ _ _ _ _ => jts_nil) (fun _ _ _ _ _ => (je_ix ix_any (je_v 12) je_int))) ja_nil)) ja_nil)))) (ja_cons (je_v 7) (ja_cons (je_v 8) ja_nil)))) ja_nil)))) jss_nil))))))))))
      (jss_one (js_ret (je_lc (own := [(("_law_row" : Str), 9)]) rfl sc_L_trees.nd (ji_seq (je_v 2)) (blkOk_by (own := [(("_law_row" : Str), 9)]) (N := ["_law_script", "_law_most", "_law_rows", "_law_cell", "_law_size", "_law_arms", "_law_word_here", "_law_many", "_law_deep", "_law_row", "_law_k", "_law_j", "_law_arm"]) (sc := defScope s_L_trees) (by decide +kernel)) (by decide) (fun _ _ _ _ _ => (jg_name (i := 9) sc_L_trees.nd)) (fun _ _ _ _ _ => jts_nil) (fun _ _ _ _ _ => (je_ix ix_any (je_v 9) je_int)))))))
theorem c_law_k11 (T : Txt K mg) : Cal P w K mg base T.ca 36 T.a_law_k11 T.d_law_k11 ["_law_script"] F_law_k11 :=
  cal_mk (k := 35) (body := b_law_k11) T.h_law_k11 sc_law_k11 rfl fun cdv A outer s H E hr tk hp =>
    (jss_cons (js_set (i := 1) sc_law_k11.nd (je_call tk (c_L_trees T) T.b_L_trees (hr.mono (by omega)) T.m_L_trees (ja_cons (je_v 0) (ja_cons je_int ja_nil))))
      (jss_cons (js_if (jt_cmp (of_eq (hu64 hr)) (je_op of_mod (je_op of_fdiv (je_call tk (c_L_at T) T.b_L_at (hr.mono (by omega)) T.m_L_at (ja_cons (je_v 0) (ja_cons je_int ja_nil))) je_int) je_int) je_int (nomark _)) (jss_one (js_set (i := 1) sc_law_k11.nd (je_listRev T.z_list T.z_reversed (je_v 1)))) jss_nil)
      (jss_cons (js_set (i := 2) sc_law_k11.nd (je_make (c := "Bank") T.mk_Bank (c_Bank___init__ T) T.b_Bank___init__ (hr.mono (by omega)) T.mc_Bank (ja_cons je_int ja_nil)))
      (jss_cons (js_set (i := 3) sc_law_k11.nd (je_lst ja_nil))
      (jss_cons (js_for hp rfl (ji_rng1 T.z_range (ja_cons (je_callB cb_len T.z_len (by decide +kernel) (ja_cons (je_v 1) ja_nil)) ja_nil)) (jg_name (i := 4) sc_law_k11.nd) (jss_cons (js_set (i := 5) sc_law_k11.nd (je_ix ix_any (je_v 1) (je_op of_mod (je_op of_add (je_call tk (c_L_at T) T.b_L_at (hr.mono (by omega)) T.m_L_at (ja_cons (je_v 0) (ja_cons (je_op of_mul je_int (je_v 4)) ja_nil))) (je_op of_mul (je_v 4) (je_v 4))) (je_callB cb_len T.z_len (by decide +kernel) (ja_cons (je_v 1) ja_nil)))))
      (jss_cons (js_if (JW.jt (jw_and (jt_cmp (of_eq (hu64 hr)) (je_op of_mod (je_call tk (c_L_at T) T.b_L_at (hr.mono (by omega)) T.m_L_at (ja_cons (je_v 0) (ja_cons je_int ja_nil))) je_int) je_int (nomark _)) (jw_and1 (jt_not (jt_tru (je_call tk (c_L_same T) T.b_L_same (hr.mono (by omega)) T.m_L_same (ja_cons (je_meth (c := "Bank") tk T.cl_Bank T.mt_Bank_find (c_Bank_find T 32) T.b_Bank_find (hr.mono (by omega)) (je_v 2) (ja_cons (je_v 5) ja_nil)) (ja_cons (je_call tk (c_L_find T 32) T.b_L_find (hr.mono (by omega)) T.m_L_find (ja_cons (je_v 3) (ja_cons (je_v 5) ja_nil))) ja_nil)))))))) (jss_one (js_ret je_bl)) jss_nil)
      (jss_cons (js_if (jt_not (jt_tru (je_call tk (c_L_same T) T.b_L_same (hr.mono (by omega)) T.m_L_same (ja_cons (je_meth (c := "Bank") tk T.cl_Bank T.mt_Bank_find (c_Bank_find T 32) T.b_Bank_find (hr.mono (by omega)) (je_v 2) (ja_cons (je_ix ix_any (je_v 1) (je_v 4)) ja_nil)) (ja_cons (je_call tk (c_L_find T 32) T.b_L_find (hr.mono (by omega)) T.m_L_find (ja_cons (je_v 3) (ja_cons (je_ix ix_any (je_v 1) (je_v 4)) ja_nil))) ja_nil))))) (jss_one (js_ret je_bl)) jss_nil)
      (jss_cons (js_set (i := 6) sc_law_k11.nd (je_call tk (c_L_put T 32) T.b_L_put (hr.mono (by omega)) T.m_L_put (ja_cons (je_v 3) (ja_cons (je_ix ix_any (je_v 1) (je_v 4)) ja_nil))))
      (jss_cons (js_if (JW.jt (jw_or (jt_not (jt_tru (je_call tk (c_L_same T) T.b_L_same (hr.mono (by omega)) T.m_L_same (ja_cons (je_meth (c := "Bank") tk T.cl_Bank T.mt_Bank_put (c_Bank_put T) T.b1_Bank_put (hr.mono (by omega)) (je_v 2) (ja_cons (je_ix ix_any (je_v 1) (je_v 4)) ja_nil)) (ja_cons (je_v 6) ja_nil))))) (jw_or (jt_not (jt_tru (je_callB cb_isi T.z_isinstance (by decide +kernel) (ja_cons (je_fld (c := "Bank") T.cl_Bank T.na_Bank_terms (je_v 2)) (ja_cons (je_ty (by rfl) T.z_list (by decide +kernel)) ja_nil))))) (jw_or1 (jt_cmp (of_ne (hu64 hr)) (je_fld (c := "Bank") T.cl_Bank T.na_Bank_terms (je_v 2)) (je_v 3) (nomark _)))))) (jss_one (js_ret je_bl)) jss_nil)
      (jss_cons (js_if (jt_not (jt_tru (je_call tk (c_L_same T) T.b_L_same (hr.mono (by omega)) T.m_L_same (ja_cons (je_meth (c := "Bank") tk T.cl_Bank T.mt_Bank_find (c_Bank_find T 32) T.b_Bank_find (hr.mono (by omega)) (je_v 2) (ja_cons (je_ix ix_any (je_v 1) (je_v 4)) ja_nil)) (ja_cons (je_v 6) ja_nil))))) (jss_one (js_ret je_bl)) jss_nil)
      (jss_one (js_if (jt_not (jt_tru (je_call tk (c_L_same T) T.b_L_same (hr.mono (by omega)) T.m_L_same (ja_cons (je_meth (c := "Bank") tk T.cl_Bank T.mt_Bank_find (c_Bank_find T 32) T.b_Bank_find (hr.mono (by omega)) (je_v 2) (ja_cons (je_v 5) ja_nil)) (ja_cons (je_call tk (c_L_find T 32) T.b_L_find (hr.mono (by omega)) T.m_L_find (ja_cons (je_v 3) (ja_cons (je_v 5) ja_nil))) ja_nil))))) (jss_one (js_ret je_bl)) jss_nil)))))))))
      (jss_one (js_ret (je_cmp (of_eq (hu64 hr)) (je_fld (c := "Bank") T.cl_Bank T.na_Bank_room (je_v 2)) je_int (nomark _)))))))))
end
theorem all_mk {P : Program} {w : World} {K : PySem.W.Frag} {h : Heap} {mg : Str → Option Value} {fa : Addr} (main : ∀ ns : List Int, ns.length ≤ 63 → ∃ st, F_law_k11 [.frz (ns.map PV.int)] [] = .ok (.bl true) st) (X : K.In h) (G : h.Ns mainGlobals mg) (hfa : mg "law" = some (.ref fa))
    {f0 f1 f2 f3 f4 f5 f6 f7 f8 f9 f10 f11 f12 f13 f14 f15 uc_Bank : Addr} {od0 an0 od1 an1 od2 an2 od3 an3 od4 an4 od5 an5 od6 an6 od7 an7 od8 an8 od9 an9 od10 an10 od11 an11 od12 an12 od13 an13 od14 an14 od15 an15 : Option Addr} {sl0 sl1 sl2 sl3 sl4 sl5 sl6 sl7 sl8 sl9 sl10 sl11 sl12 sl13 sl14 sl15 : Array (Option Value)} {oc0 kV0 dc0 pm0 cd0 ct0 oc1 kV1 dc1 pm1 cd1 ct1 oc2 kV2 dc2 pm2 cd2 ct2 oc3 kV3 dc3 pm3 cd3 ct3 oc4 kV4 dc4 pm4 cd4 ct4 oc5 kV5 dc5 pm5 cd5 ct5 oc6 kV6 dc6 pm6 cd6 ct6 oc7 kV7 dc7 pm7 cd7 ct7 oc8 kV8 dc8 pm8 cd8 ct8 oc9 kV9 dc9 pm9 cd9 ct9 oc10 kV10 dc10 pm10 cd10 ct10 oc11 kV11 dc11 pm11 cd11 ct11 oc12 kV12 dc12 pm12 cd12 ct12 oc13 kV13 dc13 pm13 cd13 ct13 oc14 kV14 dc14 pm14 cd14 ct14 oc15 kV15 dc15 pm15 cd15 ct15 : Value} {dT5 : Addr} {do5 : Obj} {dn5 : Nat}
    (u_Bank : PySem.W.nsIn K mainGlobals "Bank" = some (some (.ref uc_Bank)))
    (a0 : PySem.W.findIn K (.ref uc_Bank) "__init__" = some (some (.ref f0)))
    (l0 : K.lookup f0 = some ⟨oc0, od0, .func (PySem.W.fnOf "__init__" "Bank.__init__" (defArgs s_Bank___init__) (defBody s_Bank___init__) (defScope s_Bank___init__) .none kV0 dc0 pm0 an0 cd0 ct0), sl0⟩)
    (c0 : PySem.W.codeIn K cd0 "Bank.__init__" = true)
    (k0 : PySem.W.keepIn K (.ref f0) = true)
    (a1 : PySem.W.findIn K (.ref uc_Bank) "place" = some (some (.ref f1)))
    (l1 : K.lookup f1 = some ⟨oc1, od1, .func (PySem.W.fnOf "place" "Bank.place" (defArgs s_Bank_place) (defBody s_Bank_place) (defScope s_Bank_place) .none kV1 dc1 pm1 an1 cd1 ct1), sl1⟩)
    (c1 : PySem.W.codeIn K cd1 "Bank.place" = true)
    (k1 : PySem.W.keepIn K (.ref f1) = true)
    (a2 : PySem.W.findIn K (.ref uc_Bank) "find" = some (some (.ref f2)))
    (l2 : K.lookup f2 = some ⟨oc2, od2, .func (PySem.W.fnOf "find" "Bank.find" (defArgs s_Bank_find) (defBody s_Bank_find) (defScope s_Bank_find) .none kV2 dc2 pm2 an2 cd2 ct2), sl2⟩)
    (c2 : PySem.W.codeIn K cd2 "Bank.find" = true)
    (k2 : PySem.W.keepIn K (.ref f2) = true)
    (a3 : PySem.W.findIn K (.ref uc_Bank) "hold" = some (some (.ref f3)))
    (l3 : K.lookup f3 = some ⟨oc3, od3, .func (PySem.W.fnOf "hold" "Bank.hold" (defArgs s_Bank_hold) (defBody s_Bank_hold) (defScope s_Bank_hold) .none kV3 dc3 pm3 an3 cd3 ct3), sl3⟩)
    (c3 : PySem.W.codeIn K cd3 "Bank.hold" = true)
    (k3 : PySem.W.keepIn K (.ref f3) = true)
    (a4 : PySem.W.findIn K (.ref uc_Bank) "put_part" = some (some (.ref f4)))
    (l4 : K.lookup f4 = some ⟨oc4, od4, .func (PySem.W.fnOf "put_part" "Bank.put_part" (defArgs s_Bank_put_part) (defBody s_Bank_put_part) (defScope s_Bank_put_part) .none kV4 dc4 pm4 an4 cd4 ct4), sl4⟩)
    (c4 : PySem.W.codeIn K cd4 "Bank.put_part" = true)
    (k4 : PySem.W.keepIn K (.ref f4) = true)
    (a5 : PySem.W.findIn K (.ref uc_Bank) "put" = some (some (.ref f5)))
    (l5 : K.lookup f5 = some ⟨oc5, od5, .func (PySem.W.fnOf "put" "Bank.put" (defArgs s_Bank_put) (defBody s_Bank_put) (defScope s_Bank_put) (.ref dT5) kV5 dc5 pm5 an5 cd5 ct5), sl5⟩)
    (dl5 : K.lookup dT5 = some do5)
    (dd5 : do5.data = .seq ([Value.none] : List Value).toArray dn5)
    (c5 : PySem.W.codeIn K cd5 "Bank.put" = true)
    (k5 : PySem.W.keepIn K (.ref f5) = true)
    (a6 : PySem.W.nsIn K mainGlobals "_law_at" = some (some (.ref f6)))
    (l6 : K.lookup f6 = some ⟨oc6, od6, .func (PySem.W.fnOf "_law_at" "_law_at" (defArgs s_L_at) (defBody s_L_at) (defScope s_L_at) .none kV6 dc6 pm6 an6 cd6 ct6), sl6⟩)
    (c6 : PySem.W.codeIn K cd6 "_law_at" = true)
    (k6 : PySem.W.keepIn K (.ref f6) = true)
    (a7 : PySem.W.nsIn K mainGlobals "_law_held" = some (some (.ref f7)))
    (l7 : K.lookup f7 = some ⟨oc7, od7, .func (PySem.W.fnOf "_law_held" "_law_held" (defArgs s_L_held) (defBody s_L_held) (defScope s_L_held) .none kV7 dc7 pm7 an7 cd7 ct7), sl7⟩)
    (c7 : PySem.W.codeIn K cd7 "_law_held" = true)
    (k7 : PySem.W.keepIn K (.ref f7) = true)
    (a8 : PySem.W.nsIn K mainGlobals "_law_find" = some (some (.ref f8)))
    (l8 : K.lookup f8 = some ⟨oc8, od8, .func (PySem.W.fnOf "_law_find" "_law_find" (defArgs s_L_find) (defBody s_L_find) (defScope s_L_find) .none kV8 dc8 pm8 an8 cd8 ct8), sl8⟩)
    (c8 : PySem.W.codeIn K cd8 "_law_find" = true)
    (k8 : PySem.W.keepIn K (.ref f8) = true)
    (a9 : PySem.W.nsIn K mainGlobals "_law_put" = some (some (.ref f9)))
    (l9 : K.lookup f9 = some ⟨oc9, od9, .func (PySem.W.fnOf "_law_put" "_law_put" (defArgs s_L_put) (defBody s_L_put) (defScope s_L_put) .none kV9 dc9 pm9 an9 cd9 ct9), sl9⟩)
    (c9 : PySem.W.codeIn K cd9 "_law_put" = true)
    (k9 : PySem.W.keepIn K (.ref f9) = true)
    (a10 : PySem.W.nsIn K mainGlobals "_law_same" = some (some (.ref f10)))
    (l10 : K.lookup f10 = some ⟨oc10, od10, .func (PySem.W.fnOf "_law_same" "_law_same" (defArgs s_L_same) (defBody s_L_same) (defScope s_L_same) .none kV10 dc10 pm10 an10 cd10 ct10), sl10⟩)
    (c10 : PySem.W.codeIn K cd10 "_law_same" = true)
    (k10 : PySem.W.keepIn K (.ref f10) = true)
    (a11 : PySem.W.nsIn K mainGlobals "_law_draw" = some (some (.ref f11)))
    (l11 : K.lookup f11 = some ⟨oc11, od11, .func (PySem.W.fnOf "_law_draw" "_law_draw" (defArgs s_L_draw) (defBody s_L_draw) (defScope s_L_draw) .none kV11 dc11 pm11 an11 cd11 ct11), sl11⟩)
    (c11 : PySem.W.codeIn K cd11 "_law_draw" = true)
    (k11 : PySem.W.keepIn K (.ref f11) = true)
    (a12 : PySem.W.nsIn K mainGlobals "_law_word" = some (some (.ref f12)))
    (l12 : K.lookup f12 = some ⟨oc12, od12, .func (PySem.W.fnOf "_law_word" "_law_word" (defArgs s_L_word_3) (defBody s_L_word_3) (defScope s_L_word_3) .none kV12 dc12 pm12 an12 cd12 ct12), sl12⟩)
    (c12 : PySem.W.codeIn K cd12 "_law_word" = true)
    (k12 : PySem.W.keepIn K (.ref f12) = true)
    (a13 : PySem.W.nsIn K mainGlobals "_law_leaf" = some (some (.ref f13)))
    (l13 : K.lookup f13 = some ⟨oc13, od13, .func (PySem.W.fnOf "_law_leaf" "_law_leaf" (defArgs s_L_leaf_4) (defBody s_L_leaf_4) (defScope s_L_leaf_4) .none kV13 dc13 pm13 an13 cd13 ct13), sl13⟩)
    (c13 : PySem.W.codeIn K cd13 "_law_leaf" = true)
    (k13 : PySem.W.keepIn K (.ref f13) = true)
    (a14 : PySem.W.nsIn K mainGlobals "_law_trees" = some (some (.ref f14)))
    (l14 : K.lookup f14 = some ⟨oc14, od14, .func (PySem.W.fnOf "_law_trees" "_law_trees" (defArgs s_L_trees) (defBody s_L_trees) (defScope s_L_trees) .none kV14 dc14 pm14 an14 cd14 ct14), sl14⟩)
    (c14 : PySem.W.codeIn K cd14 "_law_trees" = true)
    (k14 : PySem.W.keepIn K (.ref f14) = true)
    (a15 : PySem.W.nsIn K mainGlobals "law" = some (some (.ref f15)))
    (l15 : K.lookup f15 = some ⟨oc15, od15, .func (PySem.W.fnOf "law" "law" (defArgs s_law_k11) (defBody s_law_k11) (defScope s_law_k11) .none kV15 dc15 pm15 an15 cd15 ct15), sl15⟩)
    (c15 : PySem.W.codeIn K cd15 "law" = true)
    (k15 : PySem.W.keepIn K (.ref f15) = true)
    (z_enumerate : PySem.W.nsIn K mainGlobals "enumerate" = some none)
    (z_tuple : PySem.W.nsIn K mainGlobals "tuple" = some none)
    (z_len : PySem.W.nsIn K mainGlobals "len" = some none)
    (z_range : PySem.W.nsIn K mainGlobals "range" = some none)
    (z_isinstance : PySem.W.nsIn K mainGlobals "isinstance" = some none)
    (z_int : PySem.W.nsIn K mainGlobals "int" = some none)
    (z_bool : PySem.W.nsIn K mainGlobals "bool" = some none)
    (z_max : PySem.W.nsIn K mainGlobals "max" = some none)
    (z_sum : PySem.W.nsIn K mainGlobals "sum" = some none)
    (z_list : PySem.W.nsIn K mainGlobals "list" = some none)
    (z_reversed : PySem.W.nsIn K mainGlobals "reversed" = some none)
    (x0_Bank : PySem.W.plainGet K uc_Bank Str.empty = true)
    (x1_Bank : PySem.W.hasDictIn K uc_Bank = true)
    (x2_Bank : PySem.W.plainOver K uc_Bank = true)
    (x3_Bank : PySem.W.findIn K (.ref uc_Bank) "__setattr__" = some (some (.builtin "object.__setattr__")))
    (n_Bank_terms : PySem.W.findIn K (.ref uc_Bank) "terms" = some none)
    (n_Bank_room : PySem.W.findIn K (.ref uc_Bank) "room" = some none)
    (t_Bank_place : PySem.W.isFn K (.ref f1) = true)
    (t_Bank_find : PySem.W.isFn K (.ref f2) = true)
    (t_Bank_hold : PySem.W.isFn K (.ref f3) = true)
    (t_Bank_put_part : PySem.W.isFn K (.ref f4) = true)
    (t_Bank_put : PySem.W.isFn K (.ref f5) = true)
    (y0_Bank : PySem.W.makesIn K uc_Bank = true)
    (y1_Bank : PySem.W.isFn K (.ref f0) = true)
    (y2_Bank : PySem.W.keepIn K (.ref uc_Bank) = true) :
    ∃ fd : FuncData, (∀ (s : Shared) (v : Value), BindsTo s fd ⟨[v], []⟩ [("_law_script", v)]) ∧ ∀ base : Heap, K.In base → base.Ns mainGlobals mg → FnOk P w K mg base (L2.CX P w) 36 fa fd ["_law_script"] (spTop K) := by
  have e := hfa.symm.trans (PySem.W.mg_of X G a15)
  cases e
  have F0 := fun_mk (st := s_Bank___init__) l0 c0 k0
  have b0 := F0.binds (ps := ["self", "room"]) fun _ _ _ _ _ _ us hl => match us, hl with | [_, _], _ => rfl
  have F1 := fun_mk (st := s_Bank_place) l1 c1 k1
  have b1 := F1.binds (ps := ["self", "term"]) fun _ _ _ _ _ _ us hl => match us, hl with | [_, _], _ => rfl
  have F2 := fun_mk (st := s_Bank_find) l2 c2 k2
  have b2 := F2.binds (ps := ["self", "tree"]) fun _ _ _ _ _ _ us hl => match us, hl with | [_, _], _ => rfl
  have F3 := fun_mk (st := s_Bank_hold) l3 c3 k3
  have b3 := F3.binds (ps := ["self", "term"]) fun _ _ _ _ _ _ us hl => match us, hl with | [_, _], _ => rfl
  have F4 := fun_mk (st := s_Bank_put_part) l4 c4 k4
  have b4 := F4.binds (ps := ["self", "pattern", "binds"]) fun _ _ _ _ _ _ us hl => match us, hl with | [_, _, _], _ => rfl
  have F5 := funD_mk (st := s_Bank_put) (dvs := [.non]) l5 c5 k5 (by simp) dl5 dd5 (.cons rfl (.nil))
  have F6 := fun_mk (st := s_L_at) l6 c6 k6
  have b6 := F6.binds (ps := ["_law_script", "_law_k"]) fun _ _ _ _ _ _ us hl => match us, hl with | [_, _], _ => rfl
  have F7 := fun_mk (st := s_L_held) l7 c7 k7
  have b7 := F7.binds (ps := ["_law_rows", "_law_term"]) fun _ _ _ _ _ _ us hl => match us, hl with | [_, _], _ => rfl
  have F8 := fun_mk (st := s_L_find) l8 c8 k8
  have b8 := F8.binds (ps := ["_law_rows", "_law_tree"]) fun _ _ _ _ _ _ us hl => match us, hl with | [_, _], _ => rfl
  have F9 := fun_mk (st := s_L_put) l9 c9 k9
  have b9 := F9.binds (ps := ["_law_rows", "_law_tree"]) fun _ _ _ _ _ _ us hl => match us, hl with | [_, _], _ => rfl
  have F10 := fun_mk (st := s_L_same) l10 c10 k10
  have b10 := F10.binds (ps := ["_law_found", "_law_due"]) fun _ _ _ _ _ _ us hl => match us, hl with | [_, _], _ => rfl
  have F11 := fun_mk (st := s_L_draw) l11 c11 k11
  have b11 := F11.binds (ps := ["_law_cell", "_law_factor", "_law_many"]) fun _ _ _ _ _ _ us hl => match us, hl with | [_, _, _], _ => rfl
  have F12 := fun_mk (st := s_L_word_3) l12 c12 k12
  have b12 := F12.binds (ps := ["_law_script", "_law_which"]) fun _ _ _ _ _ _ us hl => match us, hl with | [_, _], _ => rfl
  have F13 := fun_mk (st := s_L_leaf_4) l13 c13 k13
  have b13 := F13.binds (ps := ["_law_script", "_law_cell"]) fun _ _ _ _ _ _ us hl => match us, hl with | [_, _], _ => rfl
  have F14 := fun_mk (st := s_L_trees) l14 c14 k14
  have b14 := F14.binds (ps := ["_law_script", "_law_most"]) fun _ _ _ _ _ _ us hl => match us, hl with | [_, _], _ => rfl
  have F15 := fun_mk (st := s_law_k11) l15 c15 k15
  have b15 := F15.binds (ps := ["_law_script"]) fun _ _ _ _ _ _ us hl => match us, hl with | [_], _ => rfl
  let T : Txt K mg := { a_Bank___init__ := _, d_Bank___init__ := _, h_Bank___init__ := F0, b0_Bank___init__ := b0, a_Bank_place := _, d_Bank_place := _, h_Bank_place := F1, b0_Bank_place := b1, a_Bank_find := _, d_Bank_find := _, h_Bank_find := F2, b0_Bank_find := b2, a_Bank_hold := _, d_Bank_hold := _, h_Bank_hold := F3, b0_Bank_hold := b3, a_Bank_put_part := _, d_Bank_put_part := _, h_Bank_put_part := F4, b0_Bank_put_part := b4, a_Bank_put := _, d_Bank_put := _, h_Bank_put := F5, a_L_at := _, d_L_at := _, h_L_at := F6, b0_L_at := b6, m_L_at := PySem.W.mg_of X G a6, a_L_held := _, d_L_held := _, h_L_held := F7, b0_L_held := b7, m_L_held := PySem.W.mg_of X G a7, a_L_find := _, d_L_find := _, h_L_find := F8, b0_L_find := b8, m_L_find := PySem.W.mg_of X G a8, a_L_put := _, d_L_put := _, h_L_put := F9, b0_L_put := b9, m_L_put := PySem.W.mg_of X G a9, a_L_same := _, d_L_same := _, h_L_same := F10, b0_L_same := b10, m_L_same := PySem.W.mg_of X G a10, a_L_draw := _, d_L_draw := _, h_L_draw := F11, b0_L_draw := b11, m_L_draw := PySem.W.mg_of X G a11, a_L_word_3 := _, d_L_word_3 := _, h_L_word_3 := F12, b0_L_word_3 := b12, m_L_word_3 := PySem.W.mg_of X G a12, a_L_leaf_4 := _, d_L_leaf_4 := _, h_L_leaf_4 := F13, b0_L_leaf_4 := b13, m_L_leaf_4 := PySem.W.mg_of X G a13, a_L_trees := _, d_L_trees := _, h_L_trees := F14, b0_L_trees := b14, m_L_trees := PySem.W.mg_of X G a14, a_law_k11 := _, d_law_k11 := _, h_law_k11 := F15, b0_law_k11 := b15, m_law_k11 := PySem.W.mg_of X G a15, z_enumerate := PySem.W.mg_none_of X G z_enumerate, z_tuple := PySem.W.mg_none_of X G z_tuple, z_len := PySem.W.mg_none_of X G z_len, z_range := PySem.W.mg_none_of X G z_range, z_isinstance := PySem.W.mg_none_of X G z_isinstance, z_int := PySem.W.mg_none_of X G z_int, z_bool := PySem.W.mg_none_of X G z_bool, z_max := PySem.W.mg_none_of X G z_max, z_sum := PySem.W.mg_none_of X G z_sum, z_list := PySem.W.mg_none_of X G z_list, z_reversed := PySem.W.mg_none_of X G z_reversed, c_Bank := _, m_Bank := PySem.W.mg_of X G u_Bank, xcl_Bank := ⟨x0_Bank, x1_Bank, x2_Bank, x3_Bank⟩, xna_Bank_terms := n_Bank_terms, xna_Bank_room := n_Bank_room, xmt_Bank_place := ⟨a1, t_Bank_place, k1⟩, xmt_Bank_find := ⟨a2, t_Bank_find, k2⟩, xmt_Bank_hold := ⟨a3, t_Bank_hold, k3⟩, xmt_Bank_put_part := ⟨a4, t_Bank_put_part, k4⟩, xmt_Bank_put := ⟨a5, t_Bank_put, k5⟩, xmk_Bank := ⟨y0_Bank, a0, y1_Bank, y2_Bank⟩ }
  refine ⟨PySem.W.fnOf "law" "law" (defArgs s_law_k11) (defBody s_law_k11) (defScope s_law_k11) .none kV15 dc15 pm15 an15 cd15 ct15, fun s v => .of_eq rfl, fun base _ _ => ?_⟩
  exact top_ok (c_law_k11 T) main
end FL.Wk11
end
section
set_option linter.all false
set_option maxRecDepth 100000
namespace FL
open PySem PySem.Spec PyProof.Rows L2
noncomputable section
def b_parts_s1 (p_parts : Fn) : FS :=
    (augS 1 iaddV (callF 1 p_parts [] (consA (varF 2) nilA)))
def b_parts (p_parts : Fn) : FS :=
    (seqS (setS 1 (cstF (.int 1)))
    (seqS (ifS (isB (opF eqV (opF idxV (varF 0) (cstF (.int 0))) (cstF (.str ("of" : Str))))) (forS (seqI (opF idxV (varF 0) (cstF (.int 2)))) (nameG 2) (b_parts_s1 p_parts)) nxS)
    (retS (varF 1))))
def F_parts : Nat → Fn
  | 0 => fn0
  | n + 1 => runFn 3 (b_parts (F_parts n))
end
end FL
end
section
set_option linter.all false
set_option maxRecDepth 100000
namespace FL
open PySem PySem.Spec PyProof.Rows L2
noncomputable section
def b_depth_e1 (p_depth : Fn) : FE :=
    (callF 1 p_depth [] (consA (varF 1) nilA))
def b_depth (p_depth : Fn) : FS :=
    (seqS (ifS (isB (opF neV (opF idxV (varF 0) (cstF (.int 0))) (cstF (.str ("of" : Str))))) (retS (cstF (.int 1))) nxS)
    (retS (opF addV (cstF (.int 1)) (cbF maxV (consA (lcF (seqI (opF idxV (varF 0) (cstF (.int 2)))) [1] (nameG 1) yesT (b_depth_e1 p_depth)) nilA)))))
def F_depth : Nat → Fn
  | 0 => fn0
  | n + 1 => runFn 2 (b_depth (F_depth n))
end
end FL
end
section
set_option linter.all false
set_option maxRecDepth 100000
namespace FL
open PySem PySem.Spec PyProof.Rows L2
noncomputable section
def b_knots_e1 (p_knots : Fn) : FE :=
    (callF 1 p_knots [] (consA (varF 1) nilA))
def b_knots (p_knots : Fn) : FS :=
    (seqS (ifS (isB (opF neV (opF idxV (varF 0) (cstF (.int 0))) (cstF (.str ("of" : Str))))) (retS (cstF (.int 0))) nxS)
    (retS (opF addV (cstF (.int 1)) (cbF sumV (consA (lcF (seqI (opF idxV (varF 0) (cstF (.int 2)))) [1] (nameG 1) yesT (b_knots_e1 p_knots)) nilA)))))
def F_knots : Nat → Fn
  | 0 => fn0
  | n + 1 => runFn 2 (b_knots (F_knots n))
end
end FL
end
section
set_option linter.all false
set_option maxRecDepth 100000
namespace FL
open PySem PySem.Spec PyProof.Rows L2
noncomputable section
/-! ## trees and patterns -/
inductive Tr where
  | num (i : Int) | name (x : Str) | any (x : Str) | of (w : Str) (as : List Tr)
mutual
def Tr.pv : Tr → PV
  | .num i => .tup [.str "num", .int i]
  | .name x => .tup [.str "name", .str x]
  | .any x => .tup [.str "any", .str x]
  | .of w as => .tup [.str "of", .str w, .tup (pvs as)]
def pvs : List Tr → List PV
  | [] => []
  | t :: r => t.pv :: pvs r
end
mutual
def Tr.parts : Tr → Nat
  | .num _ => 1
  | .name _ => 1
  | .any _ => 1
  | .of _ as => 1 + partsL as
def partsL : List Tr → Nat
  | [] => 0
  | t :: r => t.parts + partsL r
end
mutual
def Tr.depth : Tr → Nat
  | .num _ => 1
  | .name _ => 1
  | .any _ => 1
  | .of _ as => 1 + depthL as
def depthL : List Tr → Nat
  | [] => 0
  | t :: r => max t.depth (depthL r)
end
mutual
def Tr.knots : Tr → Nat
  | .num _ => 0
  | .name _ => 0
  | .any _ => 0
  | .of _ as => 1 + knotsL as
def knotsL : List Tr → Nat
  | [] => 0
  | t :: r => t.knots + knotsL r
end
mutual
/-- each knot has arms -/
def Tr.ok : Tr → Bool
  | .of _ as => !as.isEmpty && decide (as.length ≤ 1000) && okL as
  | _ => true
def okL : List Tr → Bool
  | [] => true
  | t :: r => t.ok && okL r
end
theorem pvs_map (as : List Tr) : pvs as = as.map Tr.pv := by
  induction as with
  | nil => rfl
  | cons a r ih => rw [pvs, ih, List.map_cons]
theorem partsL_eq (as : List Tr) : partsL as = (as.map Tr.parts).sum := by
  induction as with
  | nil => rfl
  | cons a r ih => rw [partsL, ih, List.map_cons, List.sum_cons]
theorem knotsL_eq (as : List Tr) : knotsL as = (as.map Tr.knots).sum := by
  induction as with
  | nil => rfl
  | cons a r ih => rw [knotsL, ih, List.map_cons, List.sum_cons]
theorem depthL_le {as : List Tr} {a : Tr} (h : a ∈ as) : a.depth ≤ depthL as := by
  induction as with
  | nil => cases h
  | cons b r ih =>
    rw [depthL]
    rcases List.mem_cons.mp h with rfl | h
    · omega
    · have := ih h; omega
theorem depth_pos (t : Tr) : 1 ≤ t.depth := by cases t <;> simp only [Tr.depth] <;> omega
theorem okL_mem {as : List Tr} (h : okL as = true) {a : Tr} (ha : a ∈ as) : a.ok = true := by
  induction as with
  | nil => cases ha
  | cons b r ih =>
    rw [okL, Bool.and_eq_true] at h
    rcases List.mem_cons.mp ha with rfl | ha
    · exact h.1
    · exact ih h.2 ha
mutual
theorem pv_pure : ∀ t : Tr, pureP t.pv = true
  | .num _ => rfl
  | .name _ => rfl
  | .any _ => rfl
  | .of w as => by
    simp only [Tr.pv, pureP, puresP, Bool.and_true, Bool.true_and]
    exact pvs_pure as
theorem pvs_pure : ∀ as : List Tr, puresP (pvs as) = true
  | [] => rfl
  | t :: r => by rw [pvs, puresP, pv_pure t, pvs_pure r]; rfl
end
theorem sum_nat (l : List Nat) : (l.map fun n : Nat => (n : Int)).sum = ((l.sum : Nat) : Int) := by
  induction l with
  | nil => rfl
  | cons a r ih => rw [List.map_cons, List.sum_cons, ih, List.sum_cons]; simp
theorem F_parts_ok : ∀ (n : Nat) (t : Tr) (st : Store), t.depth ≤ n → F_parts n [t.pv] st = .ok (.int (t.parts : Nat)) st := by
  intro n
  induction n with
  | zero => intro t st h; have := depth_pos t; omega
  | succ n ih =>
    intro t st h
    unfold F_parts
    refine run_rt0 ?_ rfl
    cases t with
    | num i => simp only [b_parts, Tr.pv, seqS, ifS, setS, augS, dropS, retS, retN, nxS, bkS, ctS, asgS, subS, R.toS, R.bind, R.of, opF, unF, varF, cstF, chF, isB, asB, andT, orT, notT, andF, orF, notF, ifF, nilA, consA, tupF, lstF, cbF, callF, bmF', truT, truV, nameG, nilG, consG, tupG, List.set_cons_zero, List.set_cons_succ, List.getElem?_cons_zero, List.getElem?_cons_succ, Option.bind_some, Option.bind_none, Option.map_some, Option.map_none, List.length_cons, List.length_nil, List.cons_append, List.nil_append, List.append_nil, if_true, if_false, ite_true, ite_false, Bool.false_eq_true, reduceIte, reduceCtorEq, List.map_cons, List.map_nil, Nat.sub_self, List.replicate_succ, List.replicate_zero, Nat.reduceSub, Nat.reduceAdd, Nat.reduceLT, Nat.reduceLeDiff, Nat.reduceEqDiff, Nat.reduceMul, Nat.reducePow, Int.reduceLT, Int.reduceLE, Int.reduceAdd, Int.reduceMul, Int.reduceSub, Int.reduceNeg, Int.reduceEq, Int.reducePow, Int.reduceMod, Int.reduceDiv, Int.reduceToNat, decide_true, decide_false, and_true, true_and, and_self, Option.some.injEq, addV, iaddV, subV, mulV, fdivV, modV, powV, negV, cmpV, isNonV, notNonV, eqV, neV, eqB, scEq, t1, t2, t3, t4, t5, t6, t7, t8, t9, t10, t11, t12, t13, t14, t15, t16, idxV, at0, at1, at2, at3, at4, at5, seqAt, lstAt, lenV, isiV, typV, kb1, kb2, kb3, kb4, kb5, kb6, kb7, kb8, kb9, kb10, kb11, Tr.parts]; rfl
    | name i => simp only [b_parts, Tr.pv, seqS, ifS, setS, augS, dropS, retS, retN, nxS, bkS, ctS, asgS, subS, R.toS, R.bind, R.of, opF, unF, varF, cstF, chF, isB, asB, andT, orT, notT, andF, orF, notF, ifF, nilA, consA, tupF, lstF, cbF, callF, bmF', truT, truV, nameG, nilG, consG, tupG, List.set_cons_zero, List.set_cons_succ, List.getElem?_cons_zero, List.getElem?_cons_succ, Option.bind_some, Option.bind_none, Option.map_some, Option.map_none, List.length_cons, List.length_nil, List.cons_append, List.nil_append, List.append_nil, if_true, if_false, ite_true, ite_false, Bool.false_eq_true, reduceIte, reduceCtorEq, List.map_cons, List.map_nil, Nat.sub_self, List.replicate_succ, List.replicate_zero, Nat.reduceSub, Nat.reduceAdd, Nat.reduceLT, Nat.reduceLeDiff, Nat.reduceEqDiff, Nat.reduceMul, Nat.reducePow, Int.reduceLT, Int.reduceLE, Int.reduceAdd, Int.reduceMul, Int.reduceSub, Int.reduceNeg, Int.reduceEq, Int.reducePow, Int.reduceMod, Int.reduceDiv, Int.reduceToNat, decide_true, decide_false, and_true, true_and, and_self, Option.some.injEq, addV, iaddV, subV, mulV, fdivV, modV, powV, negV, cmpV, isNonV, notNonV, eqV, neV, eqB, scEq, t1, t2, t3, t4, t5, t6, t7, t8, t9, t10, t11, t12, t13, t14, t15, t16, idxV, at0, at1, at2, at3, at4, at5, seqAt, lstAt, lenV, isiV, typV, kb1, kb2, kb3, kb4, kb5, kb6, kb7, kb8, kb9, kb10, kb11, Tr.parts]; rfl
    | any i => simp only [b_parts, Tr.pv, seqS, ifS, setS, augS, dropS, retS, retN, nxS, bkS, ctS, asgS, subS, R.toS, R.bind, R.of, opF, unF, varF, cstF, chF, isB, asB, andT, orT, notT, andF, orF, notF, ifF, nilA, consA, tupF, lstF, cbF, callF, bmF', truT, truV, nameG, nilG, consG, tupG, List.set_cons_zero, List.set_cons_succ, List.getElem?_cons_zero, List.getElem?_cons_succ, Option.bind_some, Option.bind_none, Option.map_some, Option.map_none, List.length_cons, List.length_nil, List.cons_append, List.nil_append, List.append_nil, if_true, if_false, ite_true, ite_false, Bool.false_eq_true, reduceIte, reduceCtorEq, List.map_cons, List.map_nil, Nat.sub_self, List.replicate_succ, List.replicate_zero, Nat.reduceSub, Nat.reduceAdd, Nat.reduceLT, Nat.reduceLeDiff, Nat.reduceEqDiff, Nat.reduceMul, Nat.reducePow, Int.reduceLT, Int.reduceLE, Int.reduceAdd, Int.reduceMul, Int.reduceSub, Int.reduceNeg, Int.reduceEq, Int.reducePow, Int.reduceMod, Int.reduceDiv, Int.reduceToNat, decide_true, decide_false, and_true, true_and, and_self, Option.some.injEq, addV, iaddV, subV, mulV, fdivV, modV, powV, negV, cmpV, isNonV, notNonV, eqV, neV, eqB, scEq, t1, t2, t3, t4, t5, t6, t7, t8, t9, t10, t11, t12, t13, t14, t15, t16, idxV, at0, at1, at2, at3, at4, at5, seqAt, lstAt, lenV, isiV, typV, kb1, kb2, kb3, kb4, kb5, kb6, kb7, kb8, kb9, kb10, kb11, Tr.parts]; rfl
    | of w as =>
      simp only [Tr.depth] at h
      obtain ⟨e', st', h1, h2⟩ := forL_inv (gd := []) (g := nameG 2) (b := b_parts_s1 (F_parts n)) (xs := pvs as)
        (fun i e s => s = st ∧ ∃ v, e = [some (Tr.of w as).pv, some (.int ((1 + ((as.take i).map Tr.parts).sum : Nat) : Int)), v]) (e := [some (Tr.of w as).pv, some (.int 1), none]) (st := st) ⟨rfl, none, rfl⟩ (fun i x e s hx hP => by
          obtain ⟨rfl, v, rfl⟩ := hP
          rw [pvs_map, List.getElem?_map] at hx
          obtain ⟨a, ha, rfl⟩ := Option.map_eq_some_iff.mp hx
          have hd := depthL_le (List.mem_of_getElem? ha)
          refine ⟨gd_nil _, _, rfl, _, _, ?_, rfl, some a.pv, rfl⟩
          simp only [b_parts_s1, seqS, ifS, setS, augS, dropS, retS, retN, nxS, bkS, ctS, asgS, subS, R.toS, R.bind, R.of, opF, unF, varF, cstF, chF, isB, asB, andT, orT, notT, andF, orF, notF, ifF, nilA, consA, tupF, lstF, cbF, callF, bmF', truT, truV, nameG, nilG, consG, tupG, List.set_cons_zero, List.set_cons_succ, List.getElem?_cons_zero, List.getElem?_cons_succ, Option.bind_some, Option.bind_none, Option.map_some, Option.map_none, List.length_cons, List.length_nil, List.cons_append, List.nil_append, List.append_nil, if_true, if_false, ite_true, ite_false, Bool.false_eq_true, reduceIte, reduceCtorEq, List.map_cons, List.map_nil, Nat.sub_self, List.replicate_succ, List.replicate_zero, Nat.reduceSub, Nat.reduceAdd, Nat.reduceLT, Nat.reduceLeDiff, Nat.reduceEqDiff, Nat.reduceMul, Nat.reducePow, Int.reduceLT, Int.reduceLE, Int.reduceAdd, Int.reduceMul, Int.reduceSub, Int.reduceNeg, Int.reduceEq, Int.reducePow, Int.reduceMod, Int.reduceDiv, Int.reduceToNat, decide_true, decide_false, and_true, true_and, and_self, Option.some.injEq, addV, iaddV, subV, mulV, fdivV, modV, powV, negV, cmpV, isNonV, notNonV, ih a s (by omega)]
          rw [List.take_add_one, ha]
          simp only [Option.toList_some, List.map_append, List.sum_append, List.map_cons, List.map_nil, List.sum_cons, List.sum_nil]
          congr 5
          omega) (fun e s _ => gd_nil _)
      obtain ⟨rfl, v, rfl⟩ := h2
      rw [pvs_map, List.length_map, List.take_length, ← partsL_eq] at h1
      rw [← pvs_map] at h1
      simp only [Tr.pv] at h1
      simp only [b_parts, Tr.pv, seqS, ifS, setS, augS, dropS, retS, retN, nxS, bkS, ctS, asgS, subS, R.toS, R.bind, R.of, opF, unF, varF, cstF, chF, isB, asB, andT, orT, notT, andF, orF, notF, ifF, nilA, consA, tupF, lstF, cbF, callF, bmF', truT, truV, nameG, nilG, consG, tupG, List.set_cons_zero, List.set_cons_succ, List.getElem?_cons_zero, List.getElem?_cons_succ, Option.bind_some, Option.bind_none, Option.map_some, Option.map_none, List.length_cons, List.length_nil, List.cons_append, List.nil_append, List.append_nil, if_true, if_false, ite_true, ite_false, Bool.false_eq_true, reduceIte, reduceCtorEq, List.map_cons, List.map_nil, Nat.sub_self, List.replicate_succ, List.replicate_zero, Nat.reduceSub, Nat.reduceAdd, Nat.reduceLT, Nat.reduceLeDiff, Nat.reduceEqDiff, Nat.reduceMul, Nat.reducePow, Int.reduceLT, Int.reduceLE, Int.reduceAdd, Int.reduceMul, Int.reduceSub, Int.reduceNeg, Int.reduceEq, Int.reducePow, Int.reduceMod, Int.reduceDiv, Int.reduceToNat, decide_true, decide_false, and_true, true_and, and_self, Option.some.injEq, addV, iaddV, subV, mulV, fdivV, modV, powV, negV, cmpV, isNonV, notNonV, eqV, neV, eqB, scEq, t1, t2, t3, t4, t5, t6, t7, t8, t9, t10, t11, t12, t13, t14, t15, t16, idxV, at0, at1, at2, at3, at4, at5, seqAt, lstAt, lenV, isiV, typV, kb1, kb2, kb3, kb4, kb5, kb6, kb7, kb8, kb9, kb10, kb11, Tr.parts, forS, seqI, gdOf, h1]
theorem foldl_max (l : List Nat) (a : Nat) : (l.map fun n : Nat => (n : Int)).foldl max (a : Int) = ((l.foldl max a : Nat) : Int) := by
  induction l generalizing a with
  | nil => rfl
  | cons b r ih =>
    rw [List.map_cons, List.foldl_cons, List.foldl_cons, ← ih]
    congr 1
    omega
theorem depthL_fold (as : List Tr) (a : Nat) : (as.map Tr.depth).foldl max a = max a (depthL as) := by
  induction as generalizing a with
  | nil => simp [depthL]
  | cons b r ih => rw [List.map_cons, List.foldl_cons, ih, depthL]; omega
theorem maxL_depth {as : List Tr} (h : as ≠ []) : maxL (as.map fun a => ((a.depth : Nat) : Int)) = ((depthL as : Nat) : Int) := by
  cases as with
  | nil => exact absurd rfl h
  | cons b r =>
    have e : ((b :: r).map fun a => ((a.depth : Nat) : Int)) = ((b :: r).map Tr.depth).map fun n : Nat => (n : Int) := by rw [List.map_map]; rfl
    unfold maxL
    rw [e]
    show List.foldl max ((b.depth : Nat) : Int) _ = _
    rw [foldl_max, depthL_fold, depthL]
    congr 1
    omega
theorem intsOf_mapf {α : Type} (xs : List α) (f : α → Int) : intsOf (xs.map fun a => PV.int (f a)) = some (xs.map f) := by
  have := intsOf_map (xs.map f)
  rwa [List.map_map] at this
theorem gd_one {s : Store} {r : Nat} {o : PO} (h : s[r]? = some o) : GdOk [(r, o)] s := fun p hp => by
  rw [List.mem_singleton] at hp
  subst hp
  exact h
theorem lcE {α : Type} {i k : Nat} {fe : FE} {e : Env} {s : Store} (r : Nat) (as : List α) (f φ : α → PV) (hv : e[i]? = some (some (.ref r))) (hs : s[r]? = some (.lst (as.map f))) (hl : as.length ≤ 1000000)
    (hx : ∀ a ∈ as, ∀ acc, fe ((wipeE e [k]).set k (some (f a))) (s ++ [.lst acc]) = .ok (φ a) (s ++ [.lst acc])) :
    lcF (seqI (varF i)) [k] (nameG k) yesT fe e s = .ok (.ref s.length) (s ++ [.lst (as.map φ)]) :=
  lcF_map (gd := [(r, .lst (as.map f))]) as f φ (by simp only [seqI, varF, hv, R.bind, seqAt, lstAt, hs, gdOf]) (fun acc => gd_one (getOld hs)) (by rw [sizeLine_eq]; omega) fun a ha => ⟨_, rfl, hx a ha⟩
theorem lcT {α : Type} {i k : Nat} {fi : FE} {fe : FE} {e : Env} {s : Store} (as : List α) (f φ : α → PV) (hv : fi e s = .ok (.tup (as.map f)) s) (hl : as.length ≤ 1000000)
    (hx : ∀ a ∈ as, ∀ acc, fe ((wipeE e [k]).set k (some (f a))) (s ++ [.lst acc]) = .ok (φ a) (s ++ [.lst acc])) :
    lcF (seqI fi) [k] (nameG k) yesT fe e s = .ok (.ref s.length) (s ++ [.lst (as.map φ)]) :=
  lcF_map (gd := []) as f φ (by simp only [seqI, hv, R.bind, seqAt, gdOf]) (fun acc => gd_nil _) (by rw [sizeLine_eq]; omega) fun a ha => ⟨_, rfl, hx a ha⟩
theorem okL_ne {as : List Tr} {w : Str} (h : (Tr.of w as).ok = true) : as ≠ [] ∧ as.length ≤ 1000 ∧ okL as = true := by
  simp only [Tr.ok, Bool.and_eq_true, decide_eq_true_eq, Bool.not_eq_true', List.isEmpty_eq_false_iff] at h
  exact ⟨h.1.1, h.1.2, h.2⟩
theorem F_depth_ok : ∀ (n : Nat) (t : Tr) (st : Store), t.depth ≤ n → t.ok = true → F_depth n [t.pv] st = .ok (.int (t.depth : Nat)) st := by
  intro n
  induction n with
  | zero => intro t st h; have := depth_pos t; omega
  | succ n ih =>
    intro t st h hok
    unfold F_depth
    cases t with
    | num i => refine run_rt0 ?_ rfl; simp only [b_depth, Tr.pv, seqS, ifS, setS, augS, dropS, retS, retN, nxS, bkS, ctS, asgS, subS, R.toS, R.bind, R.of, opF, unF, varF, cstF, chF, isB, asB, andT, orT, notT, andF, orF, notF, ifF, nilA, consA, tupF, lstF, cbF, callF, bmF', truT, truV, nameG, nilG, consG, tupG, List.set_cons_zero, List.set_cons_succ, List.getElem?_cons_zero, List.getElem?_cons_succ, Option.bind_some, Option.bind_none, Option.map_some, Option.map_none, List.length_cons, List.length_nil, List.cons_append, List.nil_append, List.append_nil, if_true, if_false, ite_true, ite_false, Bool.false_eq_true, reduceIte, reduceCtorEq, List.map_cons, List.map_nil, Nat.sub_self, List.replicate_succ, List.replicate_zero, Nat.reduceSub, Nat.reduceAdd, Nat.reduceLT, Nat.reduceLeDiff, Nat.reduceEqDiff, Nat.reduceMul, Nat.reducePow, Int.reduceLT, Int.reduceLE, Int.reduceAdd, Int.reduceMul, Int.reduceSub, Int.reduceNeg, Int.reduceEq, Int.reducePow, Int.reduceMod, Int.reduceDiv, Int.reduceToNat, decide_true, decide_false, and_true, true_and, and_self, Option.some.injEq, addV, iaddV, subV, mulV, fdivV, modV, powV, negV, cmpV, isNonV, notNonV, eqV, neV, eqB, scEq, t1, t2, t3, t4, t5, t6, t7, t8, t9, t10, t11, t12, t13, t14, t15, t16, idxV, at0, at1, at2, at3, at4, at5, seqAt, lstAt, lenV, isiV, typV, kb1, kb2, kb3, kb4, kb5, kb6, kb7, kb8, kb9, kb10, kb11, Tr.depth, Bool.not_false]; rfl
    | name i => refine run_rt0 ?_ rfl; simp only [b_depth, Tr.pv, seqS, ifS, setS, augS, dropS, retS, retN, nxS, bkS, ctS, asgS, subS, R.toS, R.bind, R.of, opF, unF, varF, cstF, chF, isB, asB, andT, orT, notT, andF, orF, notF, ifF, nilA, consA, tupF, lstF, cbF, callF, bmF', truT, truV, nameG, nilG, consG, tupG, List.set_cons_zero, List.set_cons_succ, List.getElem?_cons_zero, List.getElem?_cons_succ, Option.bind_some, Option.bind_none, Option.map_some, Option.map_none, List.length_cons, List.length_nil, List.cons_append, List.nil_append, List.append_nil, if_true, if_false, ite_true, ite_false, Bool.false_eq_true, reduceIte, reduceCtorEq, List.map_cons, List.map_nil, Nat.sub_self, List.replicate_succ, List.replicate_zero, Nat.reduceSub, Nat.reduceAdd, Nat.reduceLT, Nat.reduceLeDiff, Nat.reduceEqDiff, Nat.reduceMul, Nat.reducePow, Int.reduceLT, Int.reduceLE, Int.reduceAdd, Int.reduceMul, Int.reduceSub, Int.reduceNeg, Int.reduceEq, Int.reducePow, Int.reduceMod, Int.reduceDiv, Int.reduceToNat, decide_true, decide_false, and_true, true_and, and_self, Option.some.injEq, addV, iaddV, subV, mulV, fdivV, modV, powV, negV, cmpV, isNonV, notNonV, eqV, neV, eqB, scEq, t1, t2, t3, t4, t5, t6, t7, t8, t9, t10, t11, t12, t13, t14, t15, t16, idxV, at0, at1, at2, at3, at4, at5, seqAt, lstAt, lenV, isiV, typV, kb1, kb2, kb3, kb4, kb5, kb6, kb7, kb8, kb9, kb10, kb11, Tr.depth, Bool.not_false]; rfl
    | any i => refine run_rt0 ?_ rfl; simp only [b_depth, Tr.pv, seqS, ifS, setS, augS, dropS, retS, retN, nxS, bkS, ctS, asgS, subS, R.toS, R.bind, R.of, opF, unF, varF, cstF, chF, isB, asB, andT, orT, notT, andF, orF, notF, ifF, nilA, consA, tupF, lstF, cbF, callF, bmF', truT, truV, nameG, nilG, consG, tupG, List.set_cons_zero, List.set_cons_succ, List.getElem?_cons_zero, List.getElem?_cons_succ, Option.bind_some, Option.bind_none, Option.map_some, Option.map_none, List.length_cons, List.length_nil, List.cons_append, List.nil_append, List.append_nil, if_true, if_false, ite_true, ite_false, Bool.false_eq_true, reduceIte, reduceCtorEq, List.map_cons, List.map_nil, Nat.sub_self, List.replicate_succ, List.replicate_zero, Nat.reduceSub, Nat.reduceAdd, Nat.reduceLT, Nat.reduceLeDiff, Nat.reduceEqDiff, Nat.reduceMul, Nat.reducePow, Int.reduceLT, Int.reduceLE, Int.reduceAdd, Int.reduceMul, Int.reduceSub, Int.reduceNeg, Int.reduceEq, Int.reducePow, Int.reduceMod, Int.reduceDiv, Int.reduceToNat, decide_true, decide_false, and_true, true_and, and_self, Option.some.injEq, addV, iaddV, subV, mulV, fdivV, modV, powV, negV, cmpV, isNonV, notNonV, eqV, neV, eqB, scEq, t1, t2, t3, t4, t5, t6, t7, t8, t9, t10, t11, t12, t13, t14, t15, t16, idxV, at0, at1, at2, at3, at4, at5, seqAt, lstAt, lenV, isiV, typV, kb1, kb2, kb3, kb4, kb5, kb6, kb7, kb8, kb9, kb10, kb11, Tr.depth, Bool.not_false]; rfl
    | of w as =>
      obtain ⟨o1, o2, o3⟩ := okL_ne hok
      simp only [Tr.depth] at h
      refine run_rt (g := [.lst (as.map fun a => .int (a.depth : Nat))]) ?_ rfl
      have hl := lcT (i := 0) (k := 1) (fi := opF idxV (varF 0) (cstF (.int 2))) (fe := b_depth_e1 (F_depth n)) (e := [some (Tr.of w as).pv, none]) (s := st) as Tr.pv (fun a => .int (a.depth : Nat)) (by simp only [Tr.pv, pvs_map, seqS, ifS, setS, augS, dropS, retS, retN, nxS, bkS, ctS, asgS, subS, R.toS, R.bind, R.of, opF, unF, varF, cstF, chF, isB, asB, andT, orT, notT, andF, orF, notF, ifF, nilA, consA, tupF, lstF, cbF, callF, bmF', truT, truV, nameG, nilG, consG, tupG, List.set_cons_zero, List.set_cons_succ, List.getElem?_cons_zero, List.getElem?_cons_succ, Option.bind_some, Option.bind_none, Option.map_some, Option.map_none, List.length_cons, List.length_nil, List.cons_append, List.nil_append, List.append_nil, if_true, if_false, ite_true, ite_false, Bool.false_eq_true, reduceIte, reduceCtorEq, List.map_cons, List.map_nil, Nat.sub_self, List.replicate_succ, List.replicate_zero, Nat.reduceSub, Nat.reduceAdd, Nat.reduceLT, Nat.reduceLeDiff, Nat.reduceEqDiff, Nat.reduceMul, Nat.reducePow, Int.reduceLT, Int.reduceLE, Int.reduceAdd, Int.reduceMul, Int.reduceSub, Int.reduceNeg, Int.reduceEq, Int.reducePow, Int.reduceMod, Int.reduceDiv, Int.reduceToNat, decide_true, decide_false, and_true, true_and, and_self, Option.some.injEq, idxV, at0, at1, at2, at3, at4, at5, seqAt, lstAt, lenV, isiV, typV, kb1, kb2, kb3, kb4, kb5, kb6, kb7, kb8, kb9, kb10, kb11]) (by omega) (fun a ha acc => by
        simp only [b_depth_e1, wipeE, seqS, ifS, setS, augS, dropS, retS, retN, nxS, bkS, ctS, asgS, subS, R.toS, R.bind, R.of, opF, unF, varF, cstF, chF, isB, asB, andT, orT, notT, andF, orF, notF, ifF, nilA, consA, tupF, lstF, cbF, callF, bmF', truT, truV, nameG, nilG, consG, tupG, List.set_cons_zero, List.set_cons_succ, List.getElem?_cons_zero, List.getElem?_cons_succ, Option.bind_some, Option.bind_none, Option.map_some, Option.map_none, List.length_cons, List.length_nil, List.cons_append, List.nil_append, List.append_nil, if_true, if_false, ite_true, ite_false, Bool.false_eq_true, reduceIte, reduceCtorEq, List.map_cons, List.map_nil, Nat.sub_self, List.replicate_succ, List.replicate_zero, Nat.reduceSub, Nat.reduceAdd, Nat.reduceLT, Nat.reduceLeDiff, Nat.reduceEqDiff, Nat.reduceMul, Nat.reducePow, Int.reduceLT, Int.reduceLE, Int.reduceAdd, Int.reduceMul, Int.reduceSub, Int.reduceNeg, Int.reduceEq, Int.reducePow, Int.reduceMod, Int.reduceDiv, Int.reduceToNat, decide_true, decide_false, and_true, true_and, and_self, Option.some.injEq, ih a _ (Nat.le_trans (depthL_le ha) (by omega)) (okL_mem o3 ha)])
      simp only [Tr.pv] at hl
      have hne : (as.map fun a => ((a.depth : Nat) : Int)) ≠ [] := by simpa using o1
      simp only [b_depth, Tr.pv, seqS, ifS, setS, augS, dropS, retS, retN, nxS, bkS, ctS, asgS, subS, R.toS, R.bind, R.of, opF, unF, varF, cstF, chF, isB, asB, andT, orT, notT, andF, orF, notF, ifF, nilA, consA, tupF, lstF, cbF, callF, bmF', truT, truV, nameG, nilG, consG, tupG, List.set_cons_zero, List.set_cons_succ, List.getElem?_cons_zero, List.getElem?_cons_succ, Option.bind_some, Option.bind_none, Option.map_some, Option.map_none, List.length_cons, List.length_nil, List.cons_append, List.nil_append, List.append_nil, if_true, if_false, ite_true, ite_false, Bool.false_eq_true, reduceIte, reduceCtorEq, List.map_cons, List.map_nil, Nat.sub_self, List.replicate_succ, List.replicate_zero, Nat.reduceSub, Nat.reduceAdd, Nat.reduceLT, Nat.reduceLeDiff, Nat.reduceEqDiff, Nat.reduceMul, Nat.reducePow, Int.reduceLT, Int.reduceLE, Int.reduceAdd, Int.reduceMul, Int.reduceSub, Int.reduceNeg, Int.reduceEq, Int.reducePow, Int.reduceMod, Int.reduceDiv, Int.reduceToNat, decide_true, decide_false, and_true, true_and, and_self, Option.some.injEq, addV, iaddV, subV, mulV, fdivV, modV, powV, negV, cmpV, isNonV, notNonV, eqV, neV, eqB, scEq, t1, t2, t3, t4, t5, t6, t7, t8, t9, t10, t11, t12, t13, t14, t15, t16, idxV, at0, at1, at2, at3, at4, at5, seqAt, lstAt, lenV, isiV, typV, kb1, kb2, kb3, kb4, kb5, kb6, kb7, kb8, kb9, kb10, kb11, Tr.depth, Bool.not_true, hl, maxV, getS0, intsOf_mapf as (fun a => ((a.depth : Nat) : Int)), hne, maxL_depth o1]
      simp
theorem F_knots_ok : ∀ (n : Nat) (t : Tr) (st : Store), t.depth ≤ n → t.ok = true → F_knots n [t.pv] st = .ok (.int (t.knots : Nat)) st := by
  intro n
  induction n with
  | zero => intro t st h; have := depth_pos t; omega
  | succ n ih =>
    intro t st h hok
    unfold F_knots
    cases t with
    | num i => refine run_rt0 ?_ rfl; simp only [b_knots, Tr.pv, seqS, ifS, setS, augS, dropS, retS, retN, nxS, bkS, ctS, asgS, subS, R.toS, R.bind, R.of, opF, unF, varF, cstF, chF, isB, asB, andT, orT, notT, andF, orF, notF, ifF, nilA, consA, tupF, lstF, cbF, callF, bmF', truT, truV, nameG, nilG, consG, tupG, List.set_cons_zero, List.set_cons_succ, List.getElem?_cons_zero, List.getElem?_cons_succ, Option.bind_some, Option.bind_none, Option.map_some, Option.map_none, List.length_cons, List.length_nil, List.cons_append, List.nil_append, List.append_nil, if_true, if_false, ite_true, ite_false, Bool.false_eq_true, reduceIte, reduceCtorEq, List.map_cons, List.map_nil, Nat.sub_self, List.replicate_succ, List.replicate_zero, Nat.reduceSub, Nat.reduceAdd, Nat.reduceLT, Nat.reduceLeDiff, Nat.reduceEqDiff, Nat.reduceMul, Nat.reducePow, Int.reduceLT, Int.reduceLE, Int.reduceAdd, Int.reduceMul, Int.reduceSub, Int.reduceNeg, Int.reduceEq, Int.reducePow, Int.reduceMod, Int.reduceDiv, Int.reduceToNat, decide_true, decide_false, and_true, true_and, and_self, Option.some.injEq, addV, iaddV, subV, mulV, fdivV, modV, powV, negV, cmpV, isNonV, notNonV, eqV, neV, eqB, scEq, t1, t2, t3, t4, t5, t6, t7, t8, t9, t10, t11, t12, t13, t14, t15, t16, idxV, at0, at1, at2, at3, at4, at5, seqAt, lstAt, lenV, isiV, typV, kb1, kb2, kb3, kb4, kb5, kb6, kb7, kb8, kb9, kb10, kb11, Tr.knots, Bool.not_false]; rfl
    | name i => refine run_rt0 ?_ rfl; simp only [b_knots, Tr.pv, seqS, ifS, setS, augS, dropS, retS, retN, nxS, bkS, ctS, asgS, subS, R.toS, R.bind, R.of, opF, unF, varF, cstF, chF, isB, asB, andT, orT, notT, andF, orF, notF, ifF, nilA, consA, tupF, lstF, cbF, callF, bmF', truT, truV, nameG, nilG, consG, tupG, List.set_cons_zero, List.set_cons_succ, List.getElem?_cons_zero, List.getElem?_cons_succ, Option.bind_some, Option.bind_none, Option.map_some, Option.map_none, List.length_cons, List.length_nil, List.cons_append, List.nil_append, List.append_nil, if_true, if_false, ite_true, ite_false, Bool.false_eq_true, reduceIte, reduceCtorEq, List.map_cons, List.map_nil, Nat.sub_self, List.replicate_succ, List.replicate_zero, Nat.reduceSub, Nat.reduceAdd, Nat.reduceLT, Nat.reduceLeDiff, Nat.reduceEqDiff, Nat.reduceMul, Nat.reducePow, Int.reduceLT, Int.reduceLE, Int.reduceAdd, Int.reduceMul, Int.reduceSub, Int.reduceNeg, Int.reduceEq, Int.reducePow, Int.reduceMod, Int.reduceDiv, Int.reduceToNat, decide_true, decide_false, and_true, true_and, and_self, Option.some.injEq, addV, iaddV, subV, mulV, fdivV, modV, powV, negV, cmpV, isNonV, notNonV, eqV, neV, eqB, scEq, t1, t2, t3, t4, t5, t6, t7, t8, t9, t10, t11, t12, t13, t14, t15, t16, idxV, at0, at1, at2, at3, at4, at5, seqAt, lstAt, lenV, isiV, typV, kb1, kb2, kb3, kb4, kb5, kb6, kb7, kb8, kb9, kb10, kb11, Tr.knots, Bool.not_false]; rfl
    | any i => refine run_rt0 ?_ rfl; simp only [b_knots, Tr.pv, seqS, ifS, setS, augS, dropS, retS, retN, nxS, bkS, ctS, asgS, subS, R.toS, R.bind, R.of, opF, unF, varF, cstF, chF, isB, asB, andT, orT, notT, andF, orF, notF, ifF, nilA, consA, tupF, lstF, cbF, callF, bmF', truT, truV, nameG, nilG, consG, tupG, List.set_cons_zero, List.set_cons_succ, List.getElem?_cons_zero, List.getElem?_cons_succ, Option.bind_some, Option.bind_none, Option.map_some, Option.map_none, List.length_cons, List.length_nil, List.cons_append, List.nil_append, List.append_nil, if_true, if_false, ite_true, ite_false, Bool.false_eq_true, reduceIte, reduceCtorEq, List.map_cons, List.map_nil, Nat.sub_self, List.replicate_succ, List.replicate_zero, Nat.reduceSub, Nat.reduceAdd, Nat.reduceLT, Nat.reduceLeDiff, Nat.reduceEqDiff, Nat.reduceMul, Nat.reducePow, Int.reduceLT, Int.reduceLE, Int.reduceAdd, Int.reduceMul, Int.reduceSub, Int.reduceNeg, Int.reduceEq, Int.reducePow, Int.reduceMod, Int.reduceDiv, Int.reduceToNat, decide_true, decide_false, and_true, true_and, and_self, Option.some.injEq, addV, iaddV, subV, mulV, fdivV, modV, powV, negV, cmpV, isNonV, notNonV, eqV, neV, eqB, scEq, t1, t2, t3, t4, t5, t6, t7, t8, t9, t10, t11, t12, t13, t14, t15, t16, idxV, at0, at1, at2, at3, at4, at5, seqAt, lstAt, lenV, isiV, typV, kb1, kb2, kb3, kb4, kb5, kb6, kb7, kb8, kb9, kb10, kb11, Tr.knots, Bool.not_false]; rfl
    | of w as =>
      obtain ⟨o1, o2, o3⟩ := okL_ne hok
      simp only [Tr.depth] at h
      refine run_rt (g := [.lst (as.map fun a => .int (a.knots : Nat))]) ?_ rfl
      have hl := lcT (i := 0) (k := 1) (fi := opF idxV (varF 0) (cstF (.int 2))) (fe := b_knots_e1 (F_knots n)) (e := [some (Tr.of w as).pv, none]) (s := st) as Tr.pv (fun a => .int (a.knots : Nat)) (by simp only [Tr.pv, pvs_map, seqS, ifS, setS, augS, dropS, retS, retN, nxS, bkS, ctS, asgS, subS, R.toS, R.bind, R.of, opF, unF, varF, cstF, chF, isB, asB, andT, orT, notT, andF, orF, notF, ifF, nilA, consA, tupF, lstF, cbF, callF, bmF', truT, truV, nameG, nilG, consG, tupG, List.set_cons_zero, List.set_cons_succ, List.getElem?_cons_zero, List.getElem?_cons_succ, Option.bind_some, Option.bind_none, Option.map_some, Option.map_none, List.length_cons, List.length_nil, List.cons_append, List.nil_append, List.append_nil, if_true, if_false, ite_true, ite_false, Bool.false_eq_true, reduceIte, reduceCtorEq, List.map_cons, List.map_nil, Nat.sub_self, List.replicate_succ, List.replicate_zero, Nat.reduceSub, Nat.reduceAdd, Nat.reduceLT, Nat.reduceLeDiff, Nat.reduceEqDiff, Nat.reduceMul, Nat.reducePow, Int.reduceLT, Int.reduceLE, Int.reduceAdd, Int.reduceMul, Int.reduceSub, Int.reduceNeg, Int.reduceEq, Int.reducePow, Int.reduceMod, Int.reduceDiv, Int.reduceToNat, decide_true, decide_false, and_true, true_and, and_self, Option.some.injEq, idxV, at0, at1, at2, at3, at4, at5, seqAt, lstAt, lenV, isiV, typV, kb1, kb2, kb3, kb4, kb5, kb6, kb7, kb8, kb9, kb10, kb11]) (by omega) (fun a ha acc => by
        simp only [b_knots_e1, wipeE, seqS, ifS, setS, augS, dropS, retS, retN, nxS, bkS, ctS, asgS, subS, R.toS, R.bind, R.of, opF, unF, varF, cstF, chF, isB, asB, andT, orT, notT, andF, orF, notF, ifF, nilA, consA, tupF, lstF, cbF, callF, bmF', truT, truV, nameG, nilG, consG, tupG, List.set_cons_zero, List.set_cons_succ, List.getElem?_cons_zero, List.getElem?_cons_succ, Option.bind_some, Option.bind_none, Option.map_some, Option.map_none, List.length_cons, List.length_nil, List.cons_append, List.nil_append, List.append_nil, if_true, if_false, ite_true, ite_false, Bool.false_eq_true, reduceIte, reduceCtorEq, List.map_cons, List.map_nil, Nat.sub_self, List.replicate_succ, List.replicate_zero, Nat.reduceSub, Nat.reduceAdd, Nat.reduceLT, Nat.reduceLeDiff, Nat.reduceEqDiff, Nat.reduceMul, Nat.reducePow, Int.reduceLT, Int.reduceLE, Int.reduceAdd, Int.reduceMul, Int.reduceSub, Int.reduceNeg, Int.reduceEq, Int.reducePow, Int.reduceMod, Int.reduceDiv, Int.reduceToNat, decide_true, decide_false, and_true, true_and, and_self, Option.some.injEq, ih a _ (Nat.le_trans (depthL_le ha) (by omega)) (okL_mem o3 ha)])
      simp only [Tr.pv] at hl
      have e : (as.map fun a => ((a.knots : Nat) : Int)).sum = ((knotsL as : Nat) : Int) := by rw [knotsL_eq, ← sum_nat, List.map_map]; rfl
      simp only [b_knots, Tr.pv, seqS, ifS, setS, augS, dropS, retS, retN, nxS, bkS, ctS, asgS, subS, R.toS, R.bind, R.of, opF, unF, varF, cstF, chF, isB, asB, andT, orT, notT, andF, orF, notF, ifF, nilA, consA, tupF, lstF, cbF, callF, bmF', truT, truV, nameG, nilG, consG, tupG, List.set_cons_zero, List.set_cons_succ, List.getElem?_cons_zero, List.getElem?_cons_succ, Option.bind_some, Option.bind_none, Option.map_some, Option.map_none, List.length_cons, List.length_nil, List.cons_append, List.nil_append, List.append_nil, if_true, if_false, ite_true, ite_false, Bool.false_eq_true, reduceIte, reduceCtorEq, List.map_cons, List.map_nil, Nat.sub_self, List.replicate_succ, List.replicate_zero, Nat.reduceSub, Nat.reduceAdd, Nat.reduceLT, Nat.reduceLeDiff, Nat.reduceEqDiff, Nat.reduceMul, Nat.reducePow, Int.reduceLT, Int.reduceLE, Int.reduceAdd, Int.reduceMul, Int.reduceSub, Int.reduceNeg, Int.reduceEq, Int.reducePow, Int.reduceMod, Int.reduceDiv, Int.reduceToNat, decide_true, decide_false, and_true, true_and, and_self, Option.some.injEq, addV, iaddV, subV, mulV, fdivV, modV, powV, negV, cmpV, isNonV, notNonV, eqV, neV, eqB, scEq, t1, t2, t3, t4, t5, t6, t7, t8, t9, t10, t11, t12, t13, t14, t15, t16, idxV, at0, at1, at2, at3, at4, at5, seqAt, lstAt, lenV, isiV, typV, kb1, kb2, kb3, kb4, kb5, kb6, kb7, kb8, kb9, kb10, kb11, Tr.knots, Bool.not_true, hl, sumV, getS0, intsOf_mapf as (fun a => ((a.knots : Nat) : Int)), e]
      simp
end
end FL
end
section
set_option linter.all false
set_option maxRecDepth 100000
namespace FL
open PySem PySem.Spec PyProof.Rows L2
noncomputable section
def b_L_cell_at : FS :=
    (seqS (ifS (isB (opF ltV (varF 1) (cbF lenV (consA (varF 0) nilA)))) (retS (opF idxV (varF 0) (varF 1))) nxS)
    (retS (cstF (.int 0))))
def F_L_cell_at : Fn := runFn 2 b_L_cell_at
end
end FL
end
section
set_option linter.all false
set_option maxRecDepth 100000
namespace FL
open PySem PySem.Spec PyProof.Rows L2
noncomputable section
def b_L_mixed : FS :=
    (seqS (setS 2 (opF modV (opF mulV (opF addV (opF modV (varF 0) (cstF (.int 2147483647))) (cstF (.int 1))) (opF addV (cstF (.int 48271)) (opF mulV (opF mulV (cstF (.int 2)) (varF 1)) (varF 1)))) (cstF (.int 2147483647))))
    (retS (opF modV (opF mulV (varF 2) (varF 2)) (cstF (.int 2147483629)))))
def F_L_mixed : Fn := runFn 3 b_L_mixed
end
end FL
end
section
set_option linter.all false
set_option maxRecDepth 100000
namespace FL
open PySem PySem.Spec PyProof.Rows L2
noncomputable section
def b_L_word : FS :=
    (seqS (setS 1 (cstF (.str ("abcdefghijklmnopqrstuvwxyz" : Str))))
    (seqS (setS 2 (opF addV (cstF (.int 1)) (opF modV (varF 0) (cstF (.int 8)))))
    (seqS (setS 3 (opF modV (opF fdivV (varF 0) (cstF (.int 8))) (varF 2)))
    (seqS (setS 4 (opF mulV (opF idxV (varF 1) (opF modV (opF fdivV (varF 0) (cstF (.int 1664))) (cstF (.int 26)))) (varF 2)))
    (retS (opF addV (opF addV (sliF (varF 4) noO (someO (varF 3))) (opF idxV (varF 1) (opF modV (opF fdivV (varF 0) (cstF (.int 64))) (cstF (.int 26))))) (sliF (varF 4) (someO (opF addV (varF 3) (cstF (.int 1)))) noO)))))))
def F_L_word : Fn := runFn 5 b_L_word
end
end FL
end
section
set_option linter.all false
set_option maxRecDepth 100000
namespace FL
open PySem PySem.Spec PyProof.Rows L2
noncomputable section
def b_L_number : FS :=
    (seqS (setS 2 (opF subV (opF powV (cstF (.int 10)) (cstF (.int 60))) (cstF (.int 1))))
    (seqS (ifS (isB (opF eqV (opF modV (varF 1) (cstF (.int 4))) (cstF (.int 0)))) (retS (opF subV (opF modV (varF 0) (cstF (.int 19))) (cstF (.int 9)))) nxS)
    (seqS (ifS (isB (opF eqV (opF modV (varF 1) (cstF (.int 4))) (cstF (.int 1)))) (retS (opF subV (opF modV (opF powV (varF 1) (cstF (.int 11))) (opF addV (opF mulV (cstF (.int 2)) (varF 2)) (cstF (.int 1)))) (varF 2))) nxS)
    (seqS (ifS (isB (opF eqV (opF modV (varF 1) (cstF (.int 4))) (cstF (.int 2)))) (retS (opF subV (opF modV (varF 0) (opF addV (opF mulV (cstF (.int 2)) (varF 2)) (cstF (.int 1)))) (varF 2))) nxS)
    (retS (opF idxV (lstF (consA (varF 2) (consA (unF negV (varF 2)) (consA (opF powV (cstF (.int 10)) (cstF (.int 59))) (consA (unF negV (opF powV (cstF (.int 10)) (cstF (.int 59)))) (consA (cstF (.int 10)) (consA (cstF (.int 0)) nilA))))))) (opF modV (opF fdivV (varF 1) (cstF (.int 4))) (cstF (.int 6)))))))))
def F_L_number : Fn := runFn 3 b_L_number
end
end FL
end
section
set_option linter.all false
set_option maxRecDepth 100000
namespace FL
open PySem PySem.Spec PyProof.Rows L2
noncomputable section
def b_L_whole : FS :=
    (retS (andF (cbF isiV (consA (varF 0) (consA (cstF (.ty "int")) nilA))) (andF (notF (cbF isiV (consA (varF 0) (consA (cstF (.ty "bool")) nilA)))) (opF eqV (varF 0) (varF 1)))))
def F_L_whole : Fn := runFn 2 b_L_whole
end
end FL
end
section
set_option linter.all false
set_option maxRecDepth 100000
namespace FL
open PySem PySem.Spec PyProof.Rows L2
noncomputable section
/-! ## what the laws draw by -/
def mixed1 (c k : Int) : Int := (c % 2147483647 + 1) * (48271 + 2 * k * k) % 2147483647
def mixed (c k : Int) : Int := mixed1 c k * mixed1 c k % 2147483629
theorem mixed1_lt (c k : Int) : 0 ≤ mixed1 c k ∧ mixed1 c k < 2147483647 := by
  unfold mixed1
  exact ⟨Int.emod_nonneg _ (by decide), Int.emod_lt_of_pos _ (by decide)⟩
theorem mixed_lt (c k : Int) : 0 ≤ mixed c k ∧ mixed c k < 2147483629 := by
  unfold mixed
  exact ⟨Int.emod_nonneg _ (by decide), Int.emod_lt_of_pos _ (by decide)⟩
theorem mul_nb {i j : Int} {a b : Nat} (hi : i.natAbs ≤ a) (hj : j.natAbs ≤ b) : (i * j).natAbs ≤ a * b := by
  rw [Int.natAbs_mul]
  exact Nat.mul_le_mul hi hj
theorem mulOk_le {i j : Int} (a b : Nat) (hi : i.natAbs ≤ a) (hj : j.natAbs ≤ b) (ha : a < 2 ^ 250) (hb : b < 2 ^ 250) : mulOk i j = true := mulOk_of (Nat.lt_of_le_of_lt hi ha) (Nat.lt_of_le_of_lt hj hb)
theorem F_mixed {c k : Int} {st : Store} (h0 : 0 ≤ k) (h1 : k ≤ 1000000) : F_L_mixed [.int c, .int k] st = .ok (.int (mixed c k)) st := by
  have m1 : mulOk 2 k = true := mulOk_le 2 1000000 (by decide) (by omega) (by decide) (by decide)
  have m2 : mulOk (2 * k) k = true := mulOk_le 2000000 1000000 (by omega) (by omega) (by decide) (by decide)
  have b3 : (2 * k * k).natAbs ≤ 2000000 * 1000000 := mul_nb (by omega) (by omega)
  have m3 : mulOk (c % 2147483647 + 1) (48271 + 2 * k * k) = true := mulOk_le 2147483647 (48271 + 2000000 * 1000000) (by omega) (by omega) (by decide) (by decide)
  have q := mixed1_lt c k
  have m4 : mulOk (mixed1 c k) (mixed1 c k) = true := mulOk_le 2147483647 2147483647 (by omega) (by omega) (by decide) (by decide)
  unfold mixed1 at m4
  unfold F_L_mixed
  refine run_rt0 ?_ rfl
  simp only [b_L_mixed, seqS, ifS, setS, augS, dropS, retS, retN, nxS, bkS, ctS, asgS, subS, R.toS, R.bind, R.of, opF, unF, varF, cstF, chF, isB, asB, andT, orT, notT, andF, orF, notF, ifF, nilA, consA, tupF, lstF, cbF, callF, bmF', truT, truV, nameG, nilG, consG, tupG, List.set_cons_zero, List.set_cons_succ, List.getElem?_cons_zero, List.getElem?_cons_succ, Option.bind_some, Option.bind_none, Option.map_some, Option.map_none, List.length_cons, List.length_nil, List.cons_append, List.nil_append, List.append_nil, if_true, if_false, ite_true, ite_false, Bool.false_eq_true, reduceIte, reduceCtorEq, List.map_cons, List.map_nil, Nat.sub_self, List.replicate_succ, List.replicate_zero, Nat.reduceSub, Nat.reduceAdd, Nat.reduceLT, Nat.reduceLeDiff, Nat.reduceEqDiff, Nat.reduceMul, Nat.reducePow, Int.reduceLT, Int.reduceLE, Int.reduceAdd, Int.reduceMul, Int.reduceSub, Int.reduceNeg, Int.reduceEq, Int.reducePow, Int.reduceMod, Int.reduceDiv, Int.reduceToNat, decide_true, decide_false, and_true, true_and, and_self, Option.some.injEq, addV, iaddV, subV, mulV, fdivV, modV, powV, negV, cmpV, isNonV, notNonV, m1, m2, m3, m4]
  rfl
def cellAt (ns : List Int) (k : Nat) : Int := ns.getD k 0
theorem F_cell {ns : List Int} {k : Nat} {st : Store} : F_L_cell_at [.frz (ns.map PV.int), .int k] st = .ok (.int (cellAt ns k)) st := by
  unfold F_L_cell_at
  refine run_rt0 ?_ rfl
  by_cases h : k < ns.length
  · have e : decide ((k : Int) < ((ns.map PV.int).length : Nat)) = true := by simp; exact h
    simp only [b_L_cell_at, seqS, ifS, setS, augS, dropS, retS, retN, nxS, bkS, ctS, asgS, subS, R.toS, R.bind, R.of, opF, unF, varF, cstF, chF, isB, asB, andT, orT, notT, andF, orF, notF, ifF, nilA, consA, tupF, lstF, cbF, callF, bmF', truT, truV, nameG, nilG, consG, tupG, List.set_cons_zero, List.set_cons_succ, List.getElem?_cons_zero, List.getElem?_cons_succ, Option.bind_some, Option.bind_none, Option.map_some, Option.map_none, List.length_cons, List.length_nil, List.cons_append, List.nil_append, List.append_nil, if_true, if_false, ite_true, ite_false, Bool.false_eq_true, reduceIte, reduceCtorEq, List.map_cons, List.map_nil, Nat.sub_self, List.replicate_succ, List.replicate_zero, Nat.reduceSub, Nat.reduceAdd, Nat.reduceLT, Nat.reduceLeDiff, Nat.reduceEqDiff, Nat.reduceMul, Nat.reducePow, Int.reduceLT, Int.reduceLE, Int.reduceAdd, Int.reduceMul, Int.reduceSub, Int.reduceNeg, Int.reduceEq, Int.reducePow, Int.reduceMod, Int.reduceDiv, Int.reduceToNat, decide_true, decide_false, and_true, true_and, and_self, Option.some.injEq, addV, iaddV, subV, mulV, fdivV, modV, powV, negV, cmpV, isNonV, notNonV, idxV, at0, at1, at2, at3, at4, at5, seqAt, lstAt, lenV, isiV, typV, kb1, kb2, kb3, kb4, kb5, kb6, kb7, kb8, kb9, kb10, kb11, e, atI_lt (xs := ns.map PV.int) (i := (k : Int)) (by omega) (by simpa using h)]
    simp [cellAt, List.getD_eq_getElem?_getD, List.getElem?_eq_getElem h]
  · have e : decide ((k : Int) < ((ns.map PV.int).length : Nat)) = false := by simp; omega
    simp only [b_L_cell_at, seqS, ifS, setS, augS, dropS, retS, retN, nxS, bkS, ctS, asgS, subS, R.toS, R.bind, R.of, opF, unF, varF, cstF, chF, isB, asB, andT, orT, notT, andF, orF, notF, ifF, nilA, consA, tupF, lstF, cbF, callF, bmF', truT, truV, nameG, nilG, consG, tupG, List.set_cons_zero, List.set_cons_succ, List.getElem?_cons_zero, List.getElem?_cons_succ, Option.bind_some, Option.bind_none, Option.map_some, Option.map_none, List.length_cons, List.length_nil, List.cons_append, List.nil_append, List.append_nil, if_true, if_false, ite_true, ite_false, Bool.false_eq_true, reduceIte, reduceCtorEq, List.map_cons, List.map_nil, Nat.sub_self, List.replicate_succ, List.replicate_zero, Nat.reduceSub, Nat.reduceAdd, Nat.reduceLT, Nat.reduceLeDiff, Nat.reduceEqDiff, Nat.reduceMul, Nat.reducePow, Int.reduceLT, Int.reduceLE, Int.reduceAdd, Int.reduceMul, Int.reduceSub, Int.reduceNeg, Int.reduceEq, Int.reducePow, Int.reduceMod, Int.reduceDiv, Int.reduceToNat, decide_true, decide_false, and_true, true_and, and_self, Option.some.injEq, addV, iaddV, subV, mulV, fdivV, modV, powV, negV, cmpV, isNonV, notNonV, idxV, at0, at1, at2, at3, at4, at5, seqAt, lstAt, lenV, isiV, typV, kb1, kb2, kb3, kb4, kb5, kb6, kb7, kb8, kb9, kb10, kb11, e]
    simp [cellAt, List.getD_eq_getElem?_getD, List.getElem?_eq_none (by omega : ns.length ≤ k)]
/-- a word of 1 to 8 signs -/
def wordL (m : Int) : List Nat :=
  let n := (1 + m % 8).toNat
  let a := (m / 8 % (1 + m % 8)).toNat
  List.replicate a (97 + (m / 1664 % 26).toNat) ++ [97 + (m / 64 % 26).toNat] ++ List.replicate (n - (a + 1)) (97 + (m / 1664 % 26).toNat)
def wordS (m : Int) : Str := S (wordL m)
theorem wordL_len (m : Int) : 1 ≤ (wordL m).length ∧ (wordL m).length ≤ 8 ∧ (wordL m).length = (1 + m % 8).toNat := by
  have h1 : 0 ≤ m % 8 ∧ m % 8 < 8 := ⟨Int.emod_nonneg _ (by decide), Int.emod_lt_of_pos _ (by decide)⟩
  have h2 : 0 ≤ m / 8 % (1 + m % 8) ∧ m / 8 % (1 + m % 8) < 1 + m % 8 := ⟨Int.emod_nonneg _ (by omega), Int.emod_lt_of_pos _ (by omega)⟩
  simp only [wordL, List.length_append, List.length_replicate, List.length_cons, List.length_nil]
  omega
theorem wordL_az (m : Int) : ∀ c ∈ wordL m, 97 ≤ c ∧ c < 123 := by
  have h1 : 0 ≤ m / 1664 % 26 ∧ m / 1664 % 26 < 26 := ⟨Int.emod_nonneg _ (by decide), Int.emod_lt_of_pos _ (by decide)⟩
  have h2 : 0 ≤ m / 64 % 26 ∧ m / 64 % 26 < 26 := ⟨Int.emod_nonneg _ (by decide), Int.emod_lt_of_pos _ (by decide)⟩
  intro c hc
  simp only [wordL, List.mem_append, List.mem_replicate, List.mem_singleton] at hc
  omega
theorem flat_one (n c : Nat) : (List.replicate n [c]).flatten = List.replicate n c := by
  induction n with
  | zero => rfl
  | succ n ih => rw [List.replicate_succ, List.flatten_cons, ih, List.replicate_succ]; rfl
theorem F_word {m : Int} {st : Store} (h0 : 0 ≤ m) : F_L_word [.int m] st = .ok (.str (wordS m)) st := by
  have h1 : 0 ≤ m % 8 ∧ m % 8 < 8 := ⟨Int.emod_nonneg _ (by decide), Int.emod_lt_of_pos _ (by decide)⟩
  have h2 : 0 ≤ m / 8 % (1 + m % 8) ∧ m / 8 % (1 + m % 8) < 1 + m % 8 := ⟨Int.emod_nonneg _ (by omega), Int.emod_lt_of_pos _ (by omega)⟩
  have h3 : 0 ≤ m / 1664 % 26 ∧ m / 1664 % 26 < 26 := ⟨Int.emod_nonneg _ (by decide), Int.emod_lt_of_pos _ (by decide)⟩
  have h4 : 0 ≤ m / 64 % 26 ∧ m / 64 % 26 < 26 := ⟨Int.emod_nonneg _ (by decide), Int.emod_lt_of_pos _ (by decide)⟩
  have l8 : Nat.log2 8 < 9000 := by decide
  have c1 : (0 < (8 : Int) ∧ (8 : Int).natAbs.log2 < 9000) := ⟨by decide, by decide⟩
  have c2 : (0 < (1664 : Int) ∧ (1664 : Int).natAbs.log2 < 9000) := ⟨by decide, by decide⟩
  have c3 : (0 < (64 : Int) ∧ (64 : Int).natAbs.log2 < 9000) := ⟨by decide, by decide⟩
  have c4 : (0 < 1 + m % 8) := by omega
  have c5 : 0 ≤ 1 + m % 8 ∧ 1 + m % 8 ≤ 1000 ∧ (S [97 + (m / 1664 % 26).toNat]).length ≤ 1000 := ⟨by omega, by omega, by rw [S_len]; simp⟩
  unfold F_L_word
  refine run_rt0 ?_ rfl
  have c6 : 0 ≤ 1 + m % 8 := by omega
  have c7 : (97 + (m / 1664 % 26).toNat) = 97 + (m / 1664 % 26).toNat := rfl
  have n1 : ¬ m / 8 % (1 + m % 8) < 0 := by omega
  simp only [b_L_word, seqS, ifS, setS, augS, dropS, retS, retN, nxS, bkS, ctS, asgS, subS, R.toS, R.bind, R.of, opF, unF, varF, cstF, chF, isB, asB, andT, orT, notT, andF, orF, notF, ifF, nilA, consA, tupF, lstF, cbF, callF, bmF', truT, truV, nameG, nilG, consG, tupG, List.set_cons_zero, List.set_cons_succ, List.getElem?_cons_zero, List.getElem?_cons_succ, Option.bind_some, Option.bind_none, Option.map_some, Option.map_none, List.length_cons, List.length_nil, List.cons_append, List.nil_append, List.append_nil, if_true, if_false, ite_true, ite_false, Bool.false_eq_true, reduceIte, reduceCtorEq, List.map_cons, List.map_nil, Nat.sub_self, List.replicate_succ, List.replicate_zero, Nat.reduceSub, Nat.reduceAdd, Nat.reduceLT, Nat.reduceLeDiff, Nat.reduceEqDiff, Nat.reduceMul, Nat.reducePow, Int.reduceLT, Int.reduceLE, Int.reduceAdd, Int.reduceMul, Int.reduceSub, Int.reduceNeg, Int.reduceEq, Int.reducePow, Int.reduceMod, Int.reduceDiv, Int.reduceToNat, decide_true, decide_false, and_true, true_and, and_self, Option.some.injEq, addV, iaddV, subV, mulV, fdivV, modV, powV, negV, cmpV, isNonV, notNonV, idxV, at0, at1, at2, at3, at4, at5, seqAt, lstAt, lenV, isiV, typV, kb1, kb2, kb3, kb4, kb5, kb6, kb7, kb8, kb9, kb10, kb11, sliF, noO, someO, asI, slV, cutP, c1, c2, c3, c4, letters_eq, S_cps, S_len, List.length_map, List.length_range, sizeLine_eq, letters_at h3.1 h3.2, letters_at h4.1 h4.2, S_one, S_mul _ _ c6, flat_one, List.length_replicate, S_cut, HT.sIx_none, sIx_some h2.1, sIx_some (show 0 ≤ m / 8 % (1 + m % 8) + 1 by omega), S_app, List.length_append, List.length_take, List.length_drop, c5, if_pos (show (1 + m % 8).toNat ≤ 16777216 by omega), List.drop_zero, List.take_replicate, List.drop_replicate]
  rw [if_pos (by omega)]
  simp only [S_app, S_len, List.length_append, List.length_replicate, List.length_cons, List.length_nil]
  rw [if_pos (by omega)]
  simp only [S_app]
  congr 3
  unfold wordL
  congr 2
  · congr 1
    omega
  · congr 1
    omega
/-- a number -/
def MOST : Int := 10 ^ 60 - 1
def numberI (c m : Int) : Int :=
  if m % 4 = 0 then c % 19 - 9
  else if m % 4 = 1 then m ^ 11 % (2 * MOST + 1) - MOST
  else if m % 4 = 2 then c % (2 * MOST + 1) - MOST
  else [MOST, -MOST, 10 ^ 59, -10 ^ 59, 10, 0].getD (m / 4 % 6).toNat 0
theorem F_number {c m : Int} {st : Store} (h0 : 0 ≤ m) (h1 : m < 2 ^ 64) : F_L_number [.int c, .int m] st = .ok (.int (numberI c m)) st := by
  have h2 : 0 ≤ m % 4 ∧ m % 4 < 4 := ⟨Int.emod_nonneg _ (by decide), Int.emod_lt_of_pos _ (by decide)⟩
  have h3 : 0 ≤ m / 4 % 6 ∧ m / 4 % 6 < 6 := ⟨Int.emod_nonneg _ (by decide), Int.emod_lt_of_pos _ (by decide)⟩
  have c1 : ((0 : Int) ≤ 60 ∧ (60 : Int) ≤ 1000000 ∧ (10 : Int).natAbs < 2 ^ 64) := by decide
  have c2 : ((0 : Int) ≤ 59 ∧ (59 : Int) ≤ 1000000 ∧ (10 : Int).natAbs < 2 ^ 64) := by decide
  have c3 : ((0 : Int) ≤ 11 ∧ (11 : Int) ≤ 1000000 ∧ m.natAbs < 2 ^ 64) := ⟨by decide, by decide, by omega⟩
  have c4 : mulOk 2 (10 ^ (60 : Int).toNat - 1) = true := by decide +kernel
  have c5 : (0 < (4 : Int) ∧ (4 : Int).natAbs.log2 < 9000) := by decide
  have c6 : (0 : Int) < 2 * (10 ^ (60 : Int).toNat - 1) + 1 := by decide
  unfold F_L_number numberI
  by_cases e0 : m % 4 = 0
  · refine run_rt0 ?_ rfl
    simp only [b_L_number, seqS, ifS, setS, augS, dropS, retS, retN, nxS, bkS, ctS, asgS, subS, R.toS, R.bind, R.of, opF, unF, varF, cstF, chF, isB, asB, andT, orT, notT, andF, orF, notF, ifF, nilA, consA, tupF, lstF, cbF, callF, bmF', truT, truV, nameG, nilG, consG, tupG, List.set_cons_zero, List.set_cons_succ, List.getElem?_cons_zero, List.getElem?_cons_succ, Option.bind_some, Option.bind_none, Option.map_some, Option.map_none, List.length_cons, List.length_nil, List.cons_append, List.nil_append, List.append_nil, if_true, if_false, ite_true, ite_false, Bool.false_eq_true, reduceIte, reduceCtorEq, List.map_cons, List.map_nil, Nat.sub_self, List.replicate_succ, List.replicate_zero, Nat.reduceSub, Nat.reduceAdd, Nat.reduceLT, Nat.reduceLeDiff, Nat.reduceEqDiff, Nat.reduceMul, Nat.reducePow, Int.reduceLT, Int.reduceLE, Int.reduceAdd, Int.reduceMul, Int.reduceSub, Int.reduceNeg, Int.reduceEq, Int.reducePow, Int.reduceMod, Int.reduceDiv, Int.reduceToNat, decide_true, decide_false, and_true, true_and, and_self, Option.some.injEq, addV, iaddV, subV, mulV, fdivV, modV, powV, negV, cmpV, isNonV, notNonV, eqV, neV, eqB, scEq, t1, t2, t3, t4, t5, t6, t7, t8, t9, t10, t11, t12, t13, t14, t15, t16, c1, e0]
  by_cases e1 : m % 4 = 1
  · refine run_rt0 ?_ rfl
    simp only [b_L_number, seqS, ifS, setS, augS, dropS, retS, retN, nxS, bkS, ctS, asgS, subS, R.toS, R.bind, R.of, opF, unF, varF, cstF, chF, isB, asB, andT, orT, notT, andF, orF, notF, ifF, nilA, consA, tupF, lstF, cbF, callF, bmF', truT, truV, nameG, nilG, consG, tupG, List.set_cons_zero, List.set_cons_succ, List.getElem?_cons_zero, List.getElem?_cons_succ, Option.bind_some, Option.bind_none, Option.map_some, Option.map_none, List.length_cons, List.length_nil, List.cons_append, List.nil_append, List.append_nil, if_true, if_false, ite_true, ite_false, Bool.false_eq_true, reduceIte, reduceCtorEq, List.map_cons, List.map_nil, Nat.sub_self, List.replicate_succ, List.replicate_zero, Nat.reduceSub, Nat.reduceAdd, Nat.reduceLT, Nat.reduceLeDiff, Nat.reduceEqDiff, Nat.reduceMul, Nat.reducePow, Int.reduceLT, Int.reduceLE, Int.reduceAdd, Int.reduceMul, Int.reduceSub, Int.reduceNeg, Int.reduceEq, Int.reducePow, Int.reduceMod, Int.reduceDiv, Int.reduceToNat, decide_true, decide_false, and_true, true_and, and_self, Option.some.injEq, addV, iaddV, subV, mulV, fdivV, modV, powV, negV, cmpV, isNonV, notNonV, eqV, neV, eqB, scEq, t1, t2, t3, t4, t5, t6, t7, t8, t9, t10, t11, t12, t13, t14, t15, t16, c1, e1, c3, c4, c6]
    rfl
  by_cases e2 : m % 4 = 2
  · refine run_rt0 ?_ rfl
    simp only [b_L_number, seqS, ifS, setS, augS, dropS, retS, retN, nxS, bkS, ctS, asgS, subS, R.toS, R.bind, R.of, opF, unF, varF, cstF, chF, isB, asB, andT, orT, notT, andF, orF, notF, ifF, nilA, consA, tupF, lstF, cbF, callF, bmF', truT, truV, nameG, nilG, consG, tupG, List.set_cons_zero, List.set_cons_succ, List.getElem?_cons_zero, List.getElem?_cons_succ, Option.bind_some, Option.bind_none, Option.map_some, Option.map_none, List.length_cons, List.length_nil, List.cons_append, List.nil_append, List.append_nil, if_true, if_false, ite_true, ite_false, Bool.false_eq_true, reduceIte, reduceCtorEq, List.map_cons, List.map_nil, Nat.sub_self, List.replicate_succ, List.replicate_zero, Nat.reduceSub, Nat.reduceAdd, Nat.reduceLT, Nat.reduceLeDiff, Nat.reduceEqDiff, Nat.reduceMul, Nat.reducePow, Int.reduceLT, Int.reduceLE, Int.reduceAdd, Int.reduceMul, Int.reduceSub, Int.reduceNeg, Int.reduceEq, Int.reducePow, Int.reduceMod, Int.reduceDiv, Int.reduceToNat, decide_true, decide_false, and_true, true_and, and_self, Option.some.injEq, addV, iaddV, subV, mulV, fdivV, modV, powV, negV, cmpV, isNonV, notNonV, eqV, neV, eqB, scEq, t1, t2, t3, t4, t5, t6, t7, t8, t9, t10, t11, t12, t13, t14, t15, t16, c1, e2, c4, c6]
    rfl
  · have e3 : m % 4 = 3 := by omega
    refine run_rt (g := [.lst [.int MOST, .int (-MOST), .int (10 ^ 59), .int (-10 ^ 59), .int 10, .int 0]]) ?_ rfl
    have e6 : m / 4 % 6 = 0 ∨ m / 4 % 6 = 1 ∨ m / 4 % 6 = 2 ∨ m / 4 % 6 = 3 ∨ m / 4 % 6 = 4 ∨ m / 4 % 6 = 5 := by omega
    rcases e6 with e | e | e | e | e | e <;>
      (simp only [b_L_number, seqS, ifS, setS, augS, dropS, retS, retN, nxS, bkS, ctS, asgS, subS, R.toS, R.bind, R.of, opF, unF, varF, cstF, chF, isB, asB, andT, orT, notT, andF, orF, notF, ifF, nilA, consA, tupF, lstF, cbF, callF, bmF', truT, truV, nameG, nilG, consG, tupG, List.set_cons_zero, List.set_cons_succ, List.getElem?_cons_zero, List.getElem?_cons_succ, Option.bind_some, Option.bind_none, Option.map_some, Option.map_none, List.length_cons, List.length_nil, List.cons_append, List.nil_append, List.append_nil, if_true, if_false, ite_true, ite_false, Bool.false_eq_true, reduceIte, reduceCtorEq, List.map_cons, List.map_nil, Nat.sub_self, List.replicate_succ, List.replicate_zero, Nat.reduceSub, Nat.reduceAdd, Nat.reduceLT, Nat.reduceLeDiff, Nat.reduceEqDiff, Nat.reduceMul, Nat.reducePow, Int.reduceLT, Int.reduceLE, Int.reduceAdd, Int.reduceMul, Int.reduceSub, Int.reduceNeg, Int.reduceEq, Int.reducePow, Int.reduceMod, Int.reduceDiv, Int.reduceToNat, decide_true, decide_false, and_true, true_and, and_self, Option.some.injEq, addV, iaddV, subV, mulV, fdivV, modV, powV, negV, cmpV, isNonV, notNonV, eqV, neV, eqB, scEq, t1, t2, t3, t4, t5, t6, t7, t8, t9, t10, t11, t12, t13, t14, t15, t16, idxV, at0, at1, at2, at3, at4, at5, seqAt, lstAt, lenV, isiV, typV, kb1, kb2, kb3, kb4, kb5, kb6, kb7, kb8, kb9, kb10, kb11, c1, c2, e3, c4, c5, c6, sizeLine_eq, getS0, e]; rfl)
/-- the whole numbers' look -/
theorem F_whole {a b : Int} {st : Store} : F_L_whole [.int a, .int b] st = .ok (.bl (decide (a = b))) st := by
  unfold F_L_whole
  refine run_rt0 ?_ rfl
  simp only [b_L_whole, seqS, ifS, setS, augS, dropS, retS, retN, nxS, bkS, ctS, asgS, subS, R.toS, R.bind, R.of, opF, unF, varF, cstF, chF, isB, asB, andT, orT, notT, andF, orF, notF, ifF, nilA, consA, tupF, lstF, cbF, callF, bmF', truT, truV, nameG, nilG, consG, tupG, List.set_cons_zero, List.set_cons_succ, List.getElem?_cons_zero, List.getElem?_cons_succ, Option.bind_some, Option.bind_none, Option.map_some, Option.map_none, List.length_cons, List.length_nil, List.cons_append, List.nil_append, List.append_nil, if_true, if_false, ite_true, ite_false, Bool.false_eq_true, reduceIte, reduceCtorEq, List.map_cons, List.map_nil, Nat.sub_self, List.replicate_succ, List.replicate_zero, Nat.reduceSub, Nat.reduceAdd, Nat.reduceLT, Nat.reduceLeDiff, Nat.reduceEqDiff, Nat.reduceMul, Nat.reducePow, Int.reduceLT, Int.reduceLE, Int.reduceAdd, Int.reduceMul, Int.reduceSub, Int.reduceNeg, Int.reduceEq, Int.reducePow, Int.reduceMod, Int.reduceDiv, Int.reduceToNat, decide_true, decide_false, and_true, true_and, and_self, Option.some.injEq, addV, iaddV, subV, mulV, fdivV, modV, powV, negV, cmpV, isNonV, notNonV, eqV, neV, eqB, scEq, t1, t2, t3, t4, t5, t6, t7, t8, t9, t10, t11, t12, t13, t14, t15, t16, idxV, at0, at1, at2, at3, at4, at5, seqAt, lstAt, lenV, isiV, typV, kb1, kb2, kb3, kb4, kb5, kb6, kb7, kb8, kb9, kb10, kb11, Bool.not_false]
theorem numberI_lt (c m : Int) (h0 : 0 ≤ m) : -(10 ^ 60) < numberI c m ∧ numberI c m < 10 ^ 60 := by
  have hM : MOST = 10 ^ 60 - 1 := rfl
  have h3 : 0 ≤ m / 4 % 6 ∧ m / 4 % 6 < 6 := ⟨Int.emod_nonneg _ (by decide), Int.emod_lt_of_pos _ (by decide)⟩
  unfold numberI
  split
  · have : 0 ≤ c % 19 ∧ c % 19 < 19 := ⟨Int.emod_nonneg _ (by decide), Int.emod_lt_of_pos _ (by decide)⟩
    omega
  split
  · have : 0 ≤ m ^ 11 % (2 * MOST + 1) ∧ m ^ 11 % (2 * MOST + 1) < 2 * MOST + 1 := ⟨Int.emod_nonneg _ (by decide), Int.emod_lt_of_pos _ (by decide)⟩
    omega
  split
  · have : 0 ≤ c % (2 * MOST + 1) ∧ c % (2 * MOST + 1) < 2 * MOST + 1 := ⟨Int.emod_nonneg _ (by decide), Int.emod_lt_of_pos _ (by decide)⟩
    omega
  · have e6 : m / 4 % 6 = 0 ∨ m / 4 % 6 = 1 ∨ m / 4 % 6 = 2 ∨ m / 4 % 6 = 3 ∨ m / 4 % 6 = 4 ∨ m / 4 % 6 = 5 := by omega
    rcases e6 with e | e | e | e | e | e <;> rw [e] <;> decide
end
end FL
end
section
set_option linter.all false
set_option maxRecDepth 100000
namespace FL
open PySem PySem.Spec PyProof.Rows L2
noncomputable section
def b_L_number_2 : FS :=
    (seqS (setS 1 (opF modV (opF mulV (varF 0) (cstF (.int 40014))) (cstF (.int 2147483563))))
    (seqS (ifS (isB (opF eqV (opF modV (varF 1) (cstF (.int 3))) (cstF (.int 0)))) (retS (opF subV (opF modV (opF mulV (varF 0) (opF addV (opF mulV (cstF (.int 7)) (opF powV (cstF (.int 10)) (cstF (.int 59)))) (cstF (.int 3)))) (opF subV (opF mulV (cstF (.int 2)) (opF powV (cstF (.int 10)) (cstF (.int 60)))) (cstF (.int 1)))) (opF subV (opF powV (cstF (.int 10)) (cstF (.int 60))) (cstF (.int 1))))) nxS)
    (retS (opF subV (opF modV (opF fdivV (varF 1) (cstF (.int 3))) (cstF (.int 7))) (cstF (.int 3))))))
def F_L_number_2 : Fn := runFn 2 b_L_number_2
end
end FL
end
section
set_option linter.all false
set_option maxRecDepth 100000
namespace FL
open PySem PySem.Spec PyProof.Rows L2
noncomputable section
def b_L_word_2 : FS :=
    (seqS (setS 2 (cstF (.str ("abcdefghijklmnopqrstuvwxyz" : Str))))
    (seqS (setS 3 (opF modV (opF mulV (varF 0) (cstF (.int 69621))) (cstF (.int 2147483587))))
    (seqS (setS 4 (opF addV (cstF (.int 1)) (opF modV (varF 3) (cstF (.int 8)))))
    (seqS (ifS (isB (opF eqV (opF modV (varF 1) (cstF (.int 2))) (cstF (.int 0)))) (setS 4 (opF addV (cstF (.int 1)) (opF modV (opF fdivV (varF 1) (cstF (.int 2))) (cstF (.int 8))))) nxS)
    (seqS (setS 5 (opF modV (opF fdivV (varF 3) (cstF (.int 8))) (varF 4)))
    (seqS (setS 6 (opF idxV (varF 2) (opF modV (opF fdivV (varF 1) (cstF (.int 16))) (cstF (.int 26)))))
    (retS (opF addV (opF addV (opF mulV (varF 6) (varF 5)) (opF idxV (varF 2) (opF modV (opF fdivV (varF 3) (cstF (.int 64))) (cstF (.int 26))))) (opF mulV (varF 6) (opF subV (opF subV (varF 4) (cstF (.int 1))) (varF 5)))))))))))
def F_L_word_2 : Fn := runFn 7 b_L_word_2
end
end FL
end
section
set_option linter.all false
set_option maxRecDepth 100000
namespace FL
open PySem PySem.Spec PyProof.Rows L2
noncomputable section
def b_L_knot_e1 : FE :=
    (opF modV (opF modV (opF mulV (varF 0) (varF 7)) (cstF (.int 2147483549))) (varF 1))
def b_L_knot : FS :=
    (seqS (setS 3 (opF modV (opF mulV (varF 0) (cstF (.int 16807))) (cstF (.int 2147483629))))
    (seqS (setS 4 (opF idxV (lstF (consA (cstF (.str ("plus" : Str))) (consA (cstF (.str ("times" : Str))) (consA (cstF (.str ("neg" : Str))) (consA (cstF (.str ("bind" : Str))) (consA (cstF (.str ("plus" : Str))) (consA (cstF (.str ("bind" : Str))) nilA))))))) (opF modV (varF 3) (cstF (.int 6)))))
    (seqS (setS 5 (opF subV (cstF (.int 2)) (cbF intV (consA (opF eqV (varF 4) (cstF (.str ("neg" : Str)))) nilA))))
    (seqS (ifS (isB (opF gtV (opF modV (opF fdivV (varF 3) (cstF (.int 6))) (cstF (.int 4))) (cstF (.int 1)))) (setS 5 (opF addV (cstF (.int 1)) (opF modV (opF fdivV (varF 3) (cstF (.int 24))) (cstF (.int 4))))) nxS)
    (seqS (ifS (isB (opF eqV (opF modV (opF fdivV (varF 3) (cstF (.int 6))) (cstF (.int 4))) (cstF (.int 2)))) (setS 4 (callF 2 F_L_word_2 [] (consA (opF modV (opF fdivV (varF 3) (cstF (.int 96))) (cstF (.int 3))) (consA (varF 2) nilA)))) nxS)
    (seqS (setS 6 (sliF (lstF (consA (cstF (.int 40692)) (consA (cstF (.int 39373)) (consA (cstF (.int 69069)) (consA (cstF (.int 30323)) nilA))))) noO (someO (varF 5))))
    (retS (tupF (consA (cstF (.str ("of" : Str))) (consA (varF 4) (consA (cbF tupleV (consA (lcF (seqI (varF 6)) [7] (nameG 7) yesT b_L_knot_e1) nilA)) nilA)))))))))))
def F_L_knot : Fn := runFn 8 b_L_knot
end
end FL
end
section
set_option linter.all false
set_option maxRecDepth 100000
namespace FL
open PySem PySem.Spec PyProof.Rows L2
noncomputable section
def b_L_term : FS :=
    (seqS (setS 3 (opF modV (opF mulV (varF 0) (cstF (.int 48271))) (cstF (.int 2147483647))))
    (seqS (ifS (isB (opF ltV (opF modV (varF 3) (cstF (.int 10))) (cstF (.int 2)))) (retS (tupF (consA (cstF (.str ("num" : Str))) (consA (callF 1 F_L_number_2 [] (consA (varF 0) nilA)) nilA)))) nxS)
    (seqS (ifS (orT (isB (opF ltV (opF modV (varF 3) (cstF (.int 10))) (cstF (.int 4)))) (isB (opF eqV (varF 1) (cstF (.int 0))))) (seqS (ifS (isB (opF eqV (opF modV (opF fdivV (varF 3) (cstF (.int 10))) (cstF (.int 5))) (cstF (.int 0)))) (retS (tupF (consA (cstF (.str ("name" : Str))) (consA (callF 2 F_L_word_2 [] (consA (opF modV (opF fdivV (varF 3) (cstF (.int 50))) (cstF (.int 3))) (consA (varF 2) nilA))) nilA)))) nxS)
    (seqS (ifS (isB (opF eqV (opF modV (opF fdivV (varF 3) (cstF (.int 10))) (cstF (.int 5))) (cstF (.int 1)))) (retS (tupF (consA (cstF (.str ("name" : Str))) (consA (opF idxV (lstF (consA (cstF (.str ("plus" : Str))) (consA (cstF (.str ("times" : Str))) (consA (cstF (.str ("neg" : Str))) (consA (cstF (.str ("bind" : Str))) nilA))))) (opF modV (opF fdivV (varF 3) (cstF (.int 50))) (cstF (.int 4)))) nilA)))) nxS)
    (retS (tupF (consA (cstF (.str ("name" : Str))) (consA (callF 2 F_L_word_2 [] (consA (varF 0) (consA (varF 2) nilA))) nilA)))))) nxS)
    (retS (callF 3 F_L_knot [] (consA (varF 0) (consA (varF 1) (consA (varF 2) nilA))))))))
def F_L_term : Fn := runFn 4 b_L_term
end
end FL
end
section
set_option linter.all false
set_option maxRecDepth 100000
namespace FL
open PySem PySem.Spec PyProof.Rows L2
noncomputable section
def b_L_made_s1 : FS :=
    (seqS (ifS (isB (opF ltV (cbF lenV (consA (varF 3) nilA)) (cstF (.int 24)))) (seqS (setS 7 (callF 3 F_L_term [] (consA (varF 5) (consA (cbF lenV (consA (varF 3) nilA)) (consA (varF 1) nilA)))))
    (ifS (isB (opF ninV (varF 7) (varF 3))) (dropS (bmF' "list" appendV (varF 3) (consA (varF 7) nilA))) nxS)) nxS)
    (seqS (setS 6 (opF modV (opF mulV (varF 5) (cstF (.int 45991))) (cstF (.int 2147483543))))
    (ifS (isB (opF eqV (opF modV (varF 6) (varF 2)) (cstF (.int 0)))) (seqS (setS 8 (opF modV (opF fdivV (varF 6) (cstF (.int 60))) (cbF lenV (consA (varF 3) nilA))))
    (seqS (setS 9 (opF modV (opF modV (opF mulV (varF 5) (cstF (.int 62089911))) (cstF (.int 4294967291))) (cbF lenV (consA (varF 3) nilA))))
    (dropS (bmF' "list" appendV (varF 4) (consA (tupF (consA (varF 8) (consA (varF 9) (consA (opF addV (cstF (.int 1)) (opF modV (varF 5) (opF powV (cstF (.int 10)) (cstF (.int 12))))) (consA (tupF (consA (cstF (.str ("told" : Str))) nilA)) nilA))))) nilA))))) nxS)))
def b_L_made : FS :=
    (seqS (setS 1 (cstF (.int 0)))
    (seqS (ifS (isB (opF gtV (cbF lenV (consA (varF 0) nilA)) (cstF (.int 0)))) (setS 1 (opF modV (opF idxV (varF 0) (cstF (.int 0))) (cstF (.int 10007)))) nxS)
    (seqS (setS 2 (opF idxV (lstF (consA (cstF (.int 3)) (consA (cstF (.int 7)) (consA (cstF (.int 20)) nilA)))) (opF modV (varF 1) (cstF (.int 3)))))
    (seqS (setS 3 (lstF nilA))
    (seqS (setS 4 (lstF nilA))
    (seqS (forS (seqI (sliF (varF 0) noO (someO (cstF (.int 90))))) (nameG 5) b_L_made_s1)
    (retS (tupF (consA (varF 3) (consA (varF 4) nilA))))))))))
def F_L_made : Fn := runFn 10 b_L_made
end
end FL
end
section
set_option linter.all false
set_option maxRecDepth 100000
namespace FL
open PySem PySem.Spec PyProof.Rows L2
noncomputable section
namespace Tm
/-! ## numbered terms, as laws k31 and later draw them -/
inductive Tm where
  | num (i : Int) | name (x : Str) | of (w : Str) (as : List Int)
def Tm.pv : Tm → PV
  | .num i => .tup [.str "num", .int i]
  | .name x => .tup [.str "name", .str x]
  | .of w as => .tup [.str "of", .str w, .tup (as.map PV.int)]
/-- a text of plain signs -/
abbrev Az (x : Str) : Prop := PyData.strOk x = true
def Tm.Good (n : Nat) : Tm → Prop
  | .num _ => True
  | .name x => Az x
  | .of w as => Az w ∧ as.length ≤ 4 ∧ ∀ a ∈ as, 0 ≤ a ∧ a < n
theorem Good.up {n m : Nat} (h : n ≤ m) : ∀ {t : Tm}, t.Good n → t.Good m
  | .num _, _ => trivial
  | .name _, q => q
  | .of _ _, ⟨a, b, c⟩ => ⟨a, b, fun z hz => ⟨(c z hz).1, by have := (c z hz).2; omega⟩⟩
theorem pv_pure (t : Tm) : pureP t.pv = true := by
  cases t with
  | num i => rfl
  | name x => rfl
  | of w as =>
    have : puresP (as.map PV.int) = true := pures_iff.mpr fun x hx => by
      obtain ⟨z, _, rfl⟩ := List.mem_map.mp hx
      rfl
    simp [Tm.pv, pureP, puresP, this]
def Bits (c : Int) : Prop := Builtin.Int.intBits c ≤ 1048576
theorem mb {c : Int} (h : Bits c) (j : Int) (hj : j.natAbs < 2 ^ 250) : mulOk c j = true := mulOk_b (a := 250) h hj (by decide)
theorem md (i n : Int) (h : 0 < n) : 0 ≤ i % n ∧ i % n < n := ⟨Int.emod_nonneg _ (by omega), Int.emod_lt_of_pos _ h⟩
theorem dv (i n : Int) (h : 0 ≤ i) (hn : 0 < n) : 0 ≤ i / n ∧ i / n ≤ i := ⟨Int.ediv_nonneg h (by omega), Int.ediv_le_self _ h⟩
theorem F_number {c : Int} {st : Store} (hc : Bits c) : ∃ i, F_L_number_2 [.int c] st = .ok (.int i) st := by
  have m1 := mb hc 40014 (by decide)
  have m2 := mb hc 700000000000000000000000000000000000000000000000000000000003 (by decide)
  have m3 : mulOk 7 100000000000000000000000000000000000000000000000000000000000 = true := by decide +kernel
  have m4 : mulOk 2 1000000000000000000000000000000000000000000000000000000000000 = true := by decide +kernel
  have c1 : ((0 : Int) ≤ 60 ∧ (60 : Int) ≤ 1000000 ∧ (10 : Int).natAbs < 2 ^ 64) := by decide
  have c2 : ((0 : Int) ≤ 59 ∧ (59 : Int) ≤ 1000000 ∧ (10 : Int).natAbs < 2 ^ 64) := by decide
  have c3 : (0 < (3 : Int) ∧ (3 : Int).natAbs.log2 < 9000) := by decide
  have h : ∃ i, b_L_number_2 [some (.int c), none] st = .rt (.int i) st := by
    by_cases e : c * 40014 % 2147483563 % 3 = 0
    · simp only [b_L_number_2, seqS, ifS, setS, augS, dropS, retS, retN, nxS, bkS, ctS, asgS, subS, R.toS, R.bind, R.of, opF, unF, varF, cstF, chF, isB, asB, andT, orT, notT, andF, orF, notF, ifF, nilA, consA, tupF, lstF, cbF, callF, bmF', truT, truV, nameG, nilG, consG, tupG, List.set_cons_zero, List.set_cons_succ, List.getElem?_cons_zero, List.getElem?_cons_succ, Option.bind_some, Option.bind_none, Option.map_some, Option.map_none, List.length_cons, List.length_nil, List.cons_append, List.nil_append, List.append_nil, if_true, if_false, ite_true, ite_false, Bool.false_eq_true, reduceIte, reduceCtorEq, List.map_cons, List.map_nil, Nat.sub_self, List.replicate_succ, List.replicate_zero, Nat.reduceSub, Nat.reduceAdd, Nat.reduceLT, Nat.reduceLeDiff, Nat.reduceEqDiff, Nat.reduceMul, Nat.reducePow, Int.reduceLT, Int.reduceLE, Int.reduceAdd, Int.reduceMul, Int.reduceSub, Int.reduceNeg, Int.reduceEq, Int.reducePow, Int.reduceMod, Int.reduceDiv, Int.reduceToNat, decide_true, decide_false, and_true, true_and, and_self, Option.some.injEq, addV, iaddV, subV, mulV, fdivV, modV, powV, negV, cmpV, isNonV, notNonV, eqV, neV, eqB, scEq, t1, t2, t3, t4, t5, t6, t7, t8, t9, t10, t11, t12, t13, t14, t15, t16, m1, m2, m3, m4, c1, c2, c3, e]
      exact ⟨_, rfl⟩
    · simp only [b_L_number_2, seqS, ifS, setS, augS, dropS, retS, retN, nxS, bkS, ctS, asgS, subS, R.toS, R.bind, R.of, opF, unF, varF, cstF, chF, isB, asB, andT, orT, notT, andF, orF, notF, ifF, nilA, consA, tupF, lstF, cbF, callF, bmF', truT, truV, nameG, nilG, consG, tupG, List.set_cons_zero, List.set_cons_succ, List.getElem?_cons_zero, List.getElem?_cons_succ, Option.bind_some, Option.bind_none, Option.map_some, Option.map_none, List.length_cons, List.length_nil, List.cons_append, List.nil_append, List.append_nil, if_true, if_false, ite_true, ite_false, Bool.false_eq_true, reduceIte, reduceCtorEq, List.map_cons, List.map_nil, Nat.sub_self, List.replicate_succ, List.replicate_zero, Nat.reduceSub, Nat.reduceAdd, Nat.reduceLT, Nat.reduceLeDiff, Nat.reduceEqDiff, Nat.reduceMul, Nat.reducePow, Int.reduceLT, Int.reduceLE, Int.reduceAdd, Int.reduceMul, Int.reduceSub, Int.reduceNeg, Int.reduceEq, Int.reducePow, Int.reduceMod, Int.reduceDiv, Int.reduceToNat, decide_true, decide_false, and_true, true_and, and_self, Option.some.injEq, addV, iaddV, subV, mulV, fdivV, modV, powV, negV, cmpV, isNonV, notNonV, eqV, neV, eqB, scEq, t1, t2, t3, t4, t5, t6, t7, t8, t9, t10, t11, t12, t13, t14, t15, t16, m1, m2, m3, m4, c1, c2, c3, e]
      exact ⟨_, rfl⟩
  obtain ⟨i, h⟩ := h
  exact ⟨i, run_rt0 h rfl⟩
theorem az_S {l : List Nat} (h : ∀ c ∈ l, c < 123) : Az (S l) := by
  unfold Az PyData.strOk
  rw [← Array.all_toList, S_cps, List.all_eq_true]
  intro x hx
  have := h x hx
  exact decide_eq_true (by omega)
theorem rep_one (n c : Nat) : (List.replicate n [c]).flatten = List.replicate n c := flat_one n c
theorem F_word {c h : Int} {st : Store} (hc : Bits c) (h0 : 0 ≤ h) : ∃ x, F_L_word_2 [.int c, .int h] st = .ok (.str x) st ∧ Az x := by
  have m1 := mb hc 69621 (by decide)
  obtain ⟨m, hm⟩ : ∃ m, m = c * 69621 % 2147483587 := ⟨_, rfl⟩
  have qm : 0 ≤ m ∧ m < 2147483587 := by rw [hm]; exact md _ _ (by decide)
  have z1 := md m 8 (by decide)
  have z2 := md (h / 2) 8 (by decide)
  have z3 := md (h / 16) 26 (by decide)
  have z4 := md (m / 64) 26 (by decide)
  have c8 : (0 < (8 : Int) ∧ (8 : Int).natAbs.log2 < 9000) := by decide
  have c2 : (0 < (2 : Int) ∧ (2 : Int).natAbs.log2 < 9000) := by decide
  have c16 : (0 < (16 : Int) ∧ (16 : Int).natAbs.log2 < 9000) := by decide
  have c64 : (0 < (64 : Int) ∧ (64 : Int).natAbs.log2 < 9000) := by decide
  have fin : ∀ n : Int, 1 ≤ n → n ≤ 8 → ∃ l : List Nat, (seqS (setS 5 (opF modV (opF fdivV (varF 3) (cstF (.int 8))) (varF 4)))
    (seqS (setS 6 (opF idxV (varF 2) (opF modV (opF fdivV (varF 1) (cstF (.int 16))) (cstF (.int 26)))))
    (retS (opF addV (opF addV (opF mulV (varF 6) (varF 5)) (opF idxV (varF 2) (opF modV (opF fdivV (varF 3) (cstF (.int 64))) (cstF (.int 26))))) (opF mulV (varF 6) (opF subV (opF subV (varF 4) (cstF (.int 1))) (varF 5)))))))
      [some (.int c), some (.int h), some (.str ("abcdefghijklmnopqrstuvwxyz" : Str)), some (.int m), some (.int n), none, none] st = .rt (.str (S l)) st ∧ ∀ c ∈ l, c < 123 := fun n n1 n8 => by
    have a := md (m / 8) n (by omega)
    have np : 0 < n := by omega
    have r1 : 0 ≤ m / 8 % n ∧ m / 8 % n ≤ 1000 ∧ (1 : Nat) ≤ 1000 := by omega
    have r2 : 0 ≤ n - 1 - m / 8 % n ∧ n - 1 - m / 8 % n ≤ 1000 ∧ (1 : Nat) ≤ 1000 := by omega
    refine ⟨List.replicate (m / 8 % n).toNat (97 + (h / 16 % 26).toNat) ++ [97 + (m / 64 % 26).toNat] ++ List.replicate (n - 1 - m / 8 % n).toNat (97 + (h / 16 % 26).toNat), ?_, fun x hx => ?_⟩
    · simp only [seqS, ifS, setS, augS, dropS, retS, retN, nxS, bkS, ctS, asgS, subS, R.toS, R.bind, R.of, opF, unF, varF, cstF, chF, isB, asB, andT, orT, notT, andF, orF, notF, ifF, nilA, consA, tupF, lstF, cbF, callF, bmF', truT, truV, nameG, nilG, consG, tupG, List.set_cons_zero, List.set_cons_succ, List.getElem?_cons_zero, List.getElem?_cons_succ, Option.bind_some, Option.bind_none, Option.map_some, Option.map_none, List.length_cons, List.length_nil, List.cons_append, List.nil_append, List.append_nil, if_true, if_false, ite_true, ite_false, Bool.false_eq_true, reduceIte, reduceCtorEq, List.map_cons, List.map_nil, Nat.sub_self, List.replicate_succ, List.replicate_zero, Nat.reduceSub, Nat.reduceAdd, Nat.reduceLT, Nat.reduceLeDiff, Nat.reduceEqDiff, Nat.reduceMul, Nat.reducePow, Int.reduceLT, Int.reduceLE, Int.reduceAdd, Int.reduceMul, Int.reduceSub, Int.reduceNeg, Int.reduceEq, Int.reducePow, Int.reduceMod, Int.reduceDiv, Int.reduceToNat, decide_true, decide_false, and_true, true_and, and_self, Option.some.injEq, addV, iaddV, subV, mulV, fdivV, modV, powV, negV, cmpV, isNonV, notNonV, idxV, at0, at1, at2, at3, at4, at5, seqAt, lstAt, lenV, isiV, typV, kb1, kb2, kb3, kb4, kb5, kb6, kb7, kb8, kb9, kb10, kb11, c8, c16, c64, np, letters_eq, S_cps, S_len, List.length_map, List.length_range, sizeLine_eq, letters_at z3.1 z3.2, letters_at z4.1 z4.2, S_one, r1, r2, S_mul _ _ a.1, S_mul _ _ r2.1, rep_one, List.length_replicate, S_app, List.length_append]
      rw [if_pos (by omega)]
      simp only [S_len, S_app, List.length_append, List.length_replicate, List.length_cons, List.length_nil]
      rw [if_pos (by omega)]
    · simp only [List.mem_append, List.mem_replicate, List.mem_singleton] at hx
      omega
  have key : ∃ l : List Nat, b_L_word_2 [some (.int c), some (.int h), none, none, none, none, none] st = .rt (.str (S l)) st ∧ ∀ c ∈ l, c < 123 := by
    unfold b_L_word_2
    by_cases e : h % 2 = 0
    · obtain ⟨l, f1, f2⟩ := fin (1 + h / 2 % 8) (by omega) (by omega)
      refine ⟨l, ?_, f2⟩
      refine (seqS_nx (e1 := [some (.int c), some (.int h), some (.str ("abcdefghijklmnopqrstuvwxyz" : Str)), none, none, none, none]) (s1 := st) rfl).trans ?_
      refine (seqS_nx (e1 := [some (.int c), some (.int h), some (.str ("abcdefghijklmnopqrstuvwxyz" : Str)), some (.int m), none, none, none]) (s1 := st) (by simp only [seqS, ifS, setS, augS, dropS, retS, retN, nxS, bkS, ctS, asgS, subS, R.toS, R.bind, R.of, opF, unF, varF, cstF, chF, isB, asB, andT, orT, notT, andF, orF, notF, ifF, nilA, consA, tupF, lstF, cbF, callF, bmF', truT, truV, nameG, nilG, consG, tupG, List.set_cons_zero, List.set_cons_succ, List.getElem?_cons_zero, List.getElem?_cons_succ, Option.bind_some, Option.bind_none, Option.map_some, Option.map_none, List.length_cons, List.length_nil, List.cons_append, List.nil_append, List.append_nil, if_true, if_false, ite_true, ite_false, Bool.false_eq_true, reduceIte, reduceCtorEq, List.map_cons, List.map_nil, Nat.sub_self, List.replicate_succ, List.replicate_zero, Nat.reduceSub, Nat.reduceAdd, Nat.reduceLT, Nat.reduceLeDiff, Nat.reduceEqDiff, Nat.reduceMul, Nat.reducePow, Int.reduceLT, Int.reduceLE, Int.reduceAdd, Int.reduceMul, Int.reduceSub, Int.reduceNeg, Int.reduceEq, Int.reducePow, Int.reduceMod, Int.reduceDiv, Int.reduceToNat, decide_true, decide_false, and_true, true_and, and_self, Option.some.injEq, addV, iaddV, subV, mulV, fdivV, modV, powV, negV, cmpV, isNonV, notNonV, m1, ← hm])).trans ?_
      refine (seqS_nx (e1 := [some (.int c), some (.int h), some (.str ("abcdefghijklmnopqrstuvwxyz" : Str)), some (.int m), some (.int (1 + m % 8)), none, none]) (s1 := st) (by simp only [seqS, ifS, setS, augS, dropS, retS, retN, nxS, bkS, ctS, asgS, subS, R.toS, R.bind, R.of, opF, unF, varF, cstF, chF, isB, asB, andT, orT, notT, andF, orF, notF, ifF, nilA, consA, tupF, lstF, cbF, callF, bmF', truT, truV, nameG, nilG, consG, tupG, List.set_cons_zero, List.set_cons_succ, List.getElem?_cons_zero, List.getElem?_cons_succ, Option.bind_some, Option.bind_none, Option.map_some, Option.map_none, List.length_cons, List.length_nil, List.cons_append, List.nil_append, List.append_nil, if_true, if_false, ite_true, ite_false, Bool.false_eq_true, reduceIte, reduceCtorEq, List.map_cons, List.map_nil, Nat.sub_self, List.replicate_succ, List.replicate_zero, Nat.reduceSub, Nat.reduceAdd, Nat.reduceLT, Nat.reduceLeDiff, Nat.reduceEqDiff, Nat.reduceMul, Nat.reducePow, Int.reduceLT, Int.reduceLE, Int.reduceAdd, Int.reduceMul, Int.reduceSub, Int.reduceNeg, Int.reduceEq, Int.reducePow, Int.reduceMod, Int.reduceDiv, Int.reduceToNat, decide_true, decide_false, and_true, true_and, and_self, Option.some.injEq, addV, iaddV, subV, mulV, fdivV, modV, powV, negV, cmpV, isNonV, notNonV])).trans ?_
      refine (seqS_nx (e1 := [some (.int c), some (.int h), some (.str ("abcdefghijklmnopqrstuvwxyz" : Str)), some (.int m), some (.int (1 + h / 2 % 8)), none, none]) (s1 := st) (by simp only [seqS, ifS, setS, augS, dropS, retS, retN, nxS, bkS, ctS, asgS, subS, R.toS, R.bind, R.of, opF, unF, varF, cstF, chF, isB, asB, andT, orT, notT, andF, orF, notF, ifF, nilA, consA, tupF, lstF, cbF, callF, bmF', truT, truV, nameG, nilG, consG, tupG, List.set_cons_zero, List.set_cons_succ, List.getElem?_cons_zero, List.getElem?_cons_succ, Option.bind_some, Option.bind_none, Option.map_some, Option.map_none, List.length_cons, List.length_nil, List.cons_append, List.nil_append, List.append_nil, if_true, if_false, ite_true, ite_false, Bool.false_eq_true, reduceIte, reduceCtorEq, List.map_cons, List.map_nil, Nat.sub_self, List.replicate_succ, List.replicate_zero, Nat.reduceSub, Nat.reduceAdd, Nat.reduceLT, Nat.reduceLeDiff, Nat.reduceEqDiff, Nat.reduceMul, Nat.reducePow, Int.reduceLT, Int.reduceLE, Int.reduceAdd, Int.reduceMul, Int.reduceSub, Int.reduceNeg, Int.reduceEq, Int.reducePow, Int.reduceMod, Int.reduceDiv, Int.reduceToNat, decide_true, decide_false, and_true, true_and, and_self, Option.some.injEq, addV, iaddV, subV, mulV, fdivV, modV, powV, negV, cmpV, isNonV, notNonV, eqV, neV, eqB, scEq, t1, t2, t3, t4, t5, t6, t7, t8, t9, t10, t11, t12, t13, t14, t15, t16, e, c2])).trans f1
    · obtain ⟨l, f1, f2⟩ := fin (1 + m % 8) (by omega) (by omega)
      refine ⟨l, ?_, f2⟩
      refine (seqS_nx (e1 := [some (.int c), some (.int h), some (.str ("abcdefghijklmnopqrstuvwxyz" : Str)), none, none, none, none]) (s1 := st) rfl).trans ?_
      refine (seqS_nx (e1 := [some (.int c), some (.int h), some (.str ("abcdefghijklmnopqrstuvwxyz" : Str)), some (.int m), none, none, none]) (s1 := st) (by simp only [seqS, ifS, setS, augS, dropS, retS, retN, nxS, bkS, ctS, asgS, subS, R.toS, R.bind, R.of, opF, unF, varF, cstF, chF, isB, asB, andT, orT, notT, andF, orF, notF, ifF, nilA, consA, tupF, lstF, cbF, callF, bmF', truT, truV, nameG, nilG, consG, tupG, List.set_cons_zero, List.set_cons_succ, List.getElem?_cons_zero, List.getElem?_cons_succ, Option.bind_some, Option.bind_none, Option.map_some, Option.map_none, List.length_cons, List.length_nil, List.cons_append, List.nil_append, List.append_nil, if_true, if_false, ite_true, ite_false, Bool.false_eq_true, reduceIte, reduceCtorEq, List.map_cons, List.map_nil, Nat.sub_self, List.replicate_succ, List.replicate_zero, Nat.reduceSub, Nat.reduceAdd, Nat.reduceLT, Nat.reduceLeDiff, Nat.reduceEqDiff, Nat.reduceMul, Nat.reducePow, Int.reduceLT, Int.reduceLE, Int.reduceAdd, Int.reduceMul, Int.reduceSub, Int.reduceNeg, Int.reduceEq, Int.reducePow, Int.reduceMod, Int.reduceDiv, Int.reduceToNat, decide_true, decide_false, and_true, true_and, and_self, Option.some.injEq, addV, iaddV, subV, mulV, fdivV, modV, powV, negV, cmpV, isNonV, notNonV, m1, ← hm])).trans ?_
      refine (seqS_nx (e1 := [some (.int c), some (.int h), some (.str ("abcdefghijklmnopqrstuvwxyz" : Str)), some (.int m), some (.int (1 + m % 8)), none, none]) (s1 := st) (by simp only [seqS, ifS, setS, augS, dropS, retS, retN, nxS, bkS, ctS, asgS, subS, R.toS, R.bind, R.of, opF, unF, varF, cstF, chF, isB, asB, andT, orT, notT, andF, orF, notF, ifF, nilA, consA, tupF, lstF, cbF, callF, bmF', truT, truV, nameG, nilG, consG, tupG, List.set_cons_zero, List.set_cons_succ, List.getElem?_cons_zero, List.getElem?_cons_succ, Option.bind_some, Option.bind_none, Option.map_some, Option.map_none, List.length_cons, List.length_nil, List.cons_append, List.nil_append, List.append_nil, if_true, if_false, ite_true, ite_false, Bool.false_eq_true, reduceIte, reduceCtorEq, List.map_cons, List.map_nil, Nat.sub_self, List.replicate_succ, List.replicate_zero, Nat.reduceSub, Nat.reduceAdd, Nat.reduceLT, Nat.reduceLeDiff, Nat.reduceEqDiff, Nat.reduceMul, Nat.reducePow, Int.reduceLT, Int.reduceLE, Int.reduceAdd, Int.reduceMul, Int.reduceSub, Int.reduceNeg, Int.reduceEq, Int.reducePow, Int.reduceMod, Int.reduceDiv, Int.reduceToNat, decide_true, decide_false, and_true, true_and, and_self, Option.some.injEq, addV, iaddV, subV, mulV, fdivV, modV, powV, negV, cmpV, isNonV, notNonV])).trans ?_
      refine (seqS_nx (e1 := [some (.int c), some (.int h), some (.str ("abcdefghijklmnopqrstuvwxyz" : Str)), some (.int m), some (.int (1 + m % 8)), none, none]) (s1 := st) (by simp only [seqS, ifS, setS, augS, dropS, retS, retN, nxS, bkS, ctS, asgS, subS, R.toS, R.bind, R.of, opF, unF, varF, cstF, chF, isB, asB, andT, orT, notT, andF, orF, notF, ifF, nilA, consA, tupF, lstF, cbF, callF, bmF', truT, truV, nameG, nilG, consG, tupG, List.set_cons_zero, List.set_cons_succ, List.getElem?_cons_zero, List.getElem?_cons_succ, Option.bind_some, Option.bind_none, Option.map_some, Option.map_none, List.length_cons, List.length_nil, List.cons_append, List.nil_append, List.append_nil, if_true, if_false, ite_true, ite_false, Bool.false_eq_true, reduceIte, reduceCtorEq, List.map_cons, List.map_nil, Nat.sub_self, List.replicate_succ, List.replicate_zero, Nat.reduceSub, Nat.reduceAdd, Nat.reduceLT, Nat.reduceLeDiff, Nat.reduceEqDiff, Nat.reduceMul, Nat.reducePow, Int.reduceLT, Int.reduceLE, Int.reduceAdd, Int.reduceMul, Int.reduceSub, Int.reduceNeg, Int.reduceEq, Int.reducePow, Int.reduceMod, Int.reduceDiv, Int.reduceToNat, decide_true, decide_false, and_true, true_and, and_self, Option.some.injEq, addV, iaddV, subV, mulV, fdivV, modV, powV, negV, cmpV, isNonV, notNonV, eqV, neV, eqB, scEq, t1, t2, t3, t4, t5, t6, t7, t8, t9, t10, t11, t12, t13, t14, t15, t16, e])).trans f1
  obtain ⟨l, f1, f2⟩ := key
  exact ⟨S l, run_rt0 f1 rfl, az_S f2⟩
theorem bits_small {c : Int} (h0 : 0 ≤ c) (h : c < 2 ^ 64) : Bits c := by
  have : c.natAbs < 2 ^ 64 := by omega
  have := PyProof.Rows.intBits_le this
  unfold Bits
  omega
theorem az_lit : Az "plus" ∧ Az "times" ∧ Az "neg" ∧ Az "bind" := ⟨by decide +kernel, by decide +kernel, by decide +kernel, by decide +kernel⟩
theorem six (m : Int) (h : 0 ≤ m ∧ m < 6) : ∃ w, Az w ∧ atI [PV.str "plus", .str "times", .str "neg", .str "bind", .str "plus", .str "bind"] m = some (.str w) := by
  obtain ⟨a1, a2, a3, a4⟩ := az_lit
  have : m = 0 ∨ m = 1 ∨ m = 2 ∨ m = 3 ∨ m = 4 ∨ m = 5 := by omega
  rcases this with e | e | e | e | e | e <;> subst e
  · exact ⟨_, a1, at0⟩
  · exact ⟨_, a2, at1⟩
  · exact ⟨_, a3, at2⟩
  · exact ⟨_, a4, at3⟩
  · exact ⟨_, a1, at4⟩
  · exact ⟨_, a4, at5⟩
theorem four (m : Int) (h : 0 ≤ m ∧ m < 4) : ∃ w, Az w ∧ atI [PV.str "plus", .str "times", .str "neg", .str "bind"] m = some (.str w) := by
  obtain ⟨a1, a2, a3, a4⟩ := az_lit
  have : m = 0 ∨ m = 1 ∨ m = 2 ∨ m = 3 := by omega
  rcases this with e | e | e | e <;> subst e
  · exact ⟨_, a1, at0⟩
  · exact ⟨_, a2, at1⟩
  · exact ⟨_, a3, at2⟩
  · exact ⟨_, a4, at3⟩
theorem ex_rt {f g : FS} {e e1 : Env} {s s1 : Store} {P : PV → Store → Prop} (h : f e s = .nx e1 s1) (k : ∃ v z, g e1 s1 = .rt v z ∧ P v z) : ∃ v z, seqS f g e s = .rt v z ∧ P v z := by
  obtain ⟨v, z, hz, p⟩ := k
  exact ⟨v, z, (seqS_nx h).trans hz, p⟩
/-- a good term comes out, with some garbage -/
def Out (n : Nat) (st : Store) : PV → Store → Prop := fun v z => ∃ t g, v = Tm.pv t ∧ t.Good n ∧ z = st ++ g
theorem out_run {n k : Nat} {body : FS} {args : List PV} {st : Store} (h : ∃ v z, body (args.map some ++ List.replicate (k - args.length) none) st = .rt v z ∧ Out n st v z) : ∃ t, runFn k body args st = .ok (Tm.pv t) st ∧ t.Good n := by
  obtain ⟨v, z, h, t, g, rfl, gd, rfl⟩ := h
  exact ⟨t, run_rt h (pv_pure t), gd⟩
theorem F_knot {c h : Int} {n : Nat} {st : Store} (hc : Bits c) (h0 : 0 ≤ h) (hn : 0 < n) : ∃ t, F_L_knot [.int c, .int (n : Int), .int h] st = .ok (Tm.pv t) st ∧ t.Good n := by
  have m1 := mb hc 16807 (by decide)
  obtain ⟨m, hm⟩ : ∃ m, m = c * 16807 % 2147483629 := ⟨_, rfl⟩
  have qm : 0 ≤ m ∧ m < 2147483629 := by rw [hm]; exact md _ _ (by decide)
  have c6 : (0 < (6 : Int) ∧ (6 : Int).natAbs.log2 < 9000) := by decide
  have c24 : (0 < (24 : Int) ∧ (24 : Int).natAbs.log2 < 9000) := by decide
  have c96 : (0 < (96 : Int) ∧ (96 : Int).natAbs.log2 < 9000) := by decide
  have z6 := md m 6 (by decide)
  have z24 := md (m / 24) 4 (by decide)
  have z96 := md (m / 96) 3 (by decide)
  have np : (0 : Int) < (n : Int) := by omega
  unfold F_L_knot
  apply out_run
  have fin : ∀ (w : Str) (k : Int) (g : Store), Az w → 1 ≤ k → k ≤ 4 → ∃ v z, (seqS (setS 6 (sliF (lstF (consA (cstF (.int 40692)) (consA (cstF (.int 39373)) (consA (cstF (.int 69069)) (consA (cstF (.int 30323)) nilA))))) noO (someO (varF 5))))
    (retS (tupF (consA (cstF (.str ("of" : Str))) (consA (varF 4) (consA (cbF tupleV (consA (lcF (seqI (varF 6)) [7] (nameG 7) yesT b_L_knot_e1) nilA)) nilA)))))) [some (.int c), some (.int (n : Int)), some (.int h), some (.int m), some (.str w), some (.int k), none, none] (st ++ g) = .rt v z ∧ Out n st v z := fun w k g hw k1 k4 => by
    obtain ⟨fl, hfl⟩ : ∃ fl : List Int, fl = [40692, 39373, 69069, 30323].take k.toNat := ⟨_, rfl⟩
    have cut : cutP [PV.int 40692, .int 39373, .int 69069, .int 30323] none (some k) = fl.map PV.int := by
      have : k = 1 ∨ k = 2 ∨ k = 3 ∨ k = 4 := by omega
      rcases this with e | e | e | e <;> subst e <;> rw [hfl] <;> rfl
    have fm : ∀ f ∈ fl, f.natAbs < 2 ^ 250 := fun f hf => by
      rw [hfl] at hf
      have := List.mem_of_mem_take hf
      simp only [List.mem_cons, List.not_mem_nil, or_false] at this
      rcases this with e | e | e | e <;> subst e <;> decide
    have ll : fl.length ≤ 4 := by rw [hfl, List.length_take]; simp only [List.length_cons, List.length_nil]; omega
    have lc := lcE (i := 6) (k := 7) (fe := b_L_knot_e1) (e := [some (.int c), some (.int (n : Int)), some (.int h), some (.int m), some (.str w), some (.int k), some (.ref (st ++ (g ++ [PO.lst [PV.int 40692, .int 39373, .int 69069, .int 30323]])).length), none]) (s := st ++ (g ++ [PO.lst [PV.int 40692, .int 39373, .int 69069, .int 30323], .lst (fl.map PV.int)]))
      (st ++ (g ++ [PO.lst [PV.int 40692, .int 39373, .int 69069, .int 30323]])).length fl PV.int (fun f => .int (c * f % 2147483549 % (n : Int))) rfl (by
        have : (st ++ (g ++ [PO.lst [PV.int 40692, .int 39373, .int 69069, .int 30323], .lst (fl.map PV.int)]) : Store) = (st ++ (g ++ [PO.lst [PV.int 40692, .int 39373, .int 69069, .int 30323]])) ++ [.lst (fl.map PV.int)] := by simp
        rw [this, getS0]; rfl) (by omega) fun f hf acc => by
        have mf := mb hc f (fm f hf)
        simp only [b_L_knot_e1, wipeE, seqS, ifS, setS, augS, dropS, retS, retN, nxS, bkS, ctS, asgS, subS, R.toS, R.bind, R.of, opF, unF, varF, cstF, chF, isB, asB, andT, orT, notT, andF, orF, notF, ifF, nilA, consA, tupF, lstF, cbF, callF, bmF', truT, truV, nameG, nilG, consG, tupG, List.set_cons_zero, List.set_cons_succ, List.getElem?_cons_zero, List.getElem?_cons_succ, Option.bind_some, Option.bind_none, Option.map_some, Option.map_none, List.length_cons, List.length_nil, List.cons_append, List.nil_append, List.append_nil, if_true, if_false, ite_true, ite_false, Bool.false_eq_true, reduceIte, reduceCtorEq, List.map_cons, List.map_nil, Nat.sub_self, List.replicate_succ, List.replicate_zero, Nat.reduceSub, Nat.reduceAdd, Nat.reduceLT, Nat.reduceLeDiff, Nat.reduceEqDiff, Nat.reduceMul, Nat.reducePow, Int.reduceLT, Int.reduceLE, Int.reduceAdd, Int.reduceMul, Int.reduceSub, Int.reduceNeg, Int.reduceEq, Int.reducePow, Int.reduceMod, Int.reduceDiv, Int.reduceToNat, decide_true, decide_false, and_true, true_and, and_self, Option.some.injEq, addV, iaddV, subV, mulV, fdivV, modV, powV, negV, cmpV, isNonV, notNonV, mf, np]
    refine ⟨(Tm.of w (fl.map fun f => c * f % 2147483549 % (n : Int))).pv, st ++ (g ++ [PO.lst [PV.int 40692, .int 39373, .int 69069, .int 30323], .lst (fl.map PV.int), .lst (fl.map fun f => .int (c * f % 2147483549 % (n : Int)))]), ?_, _, g ++ [PO.lst [PV.int 40692, .int 39373, .int 69069, .int 30323], .lst (fl.map PV.int), .lst (fl.map fun f => .int (c * f % 2147483549 % (n : Int)))], rfl, ⟨hw, by rw [List.length_map]; omega, fun a ha => ?_⟩, rfl⟩
    · have g0 : ∀ k, (st ++ (g ++ k))[(st ++ g).length]? = k[0]? := fun k => by rw [← appS]; exact getS0
      have g2 : ∀ a b k, (st ++ (g ++ a :: b :: k))[(st ++ (g ++ [a, b])).length]? = k[0]? := fun a b k => by
        have : (st ++ (g ++ a :: b :: k)) = (st ++ (g ++ [a, b])) ++ k := by simp
        rw [this]
        exact getS0
      simp only [seqS, ifS, setS, augS, dropS, retS, retN, nxS, bkS, ctS, asgS, subS, R.toS, R.bind, R.of, opF, unF, varF, cstF, chF, isB, asB, andT, orT, notT, andF, orF, notF, ifF, nilA, consA, tupF, lstF, cbF, callF, bmF', truT, truV, nameG, nilG, consG, tupG, List.set_cons_zero, List.set_cons_succ, List.getElem?_cons_zero, List.getElem?_cons_succ, Option.bind_some, Option.bind_none, Option.map_some, Option.map_none, List.length_cons, List.length_nil, List.cons_append, List.nil_append, List.append_nil, if_true, if_false, ite_true, ite_false, Bool.false_eq_true, reduceIte, reduceCtorEq, List.map_cons, List.map_nil, Nat.sub_self, List.replicate_succ, List.replicate_zero, Nat.reduceSub, Nat.reduceAdd, Nat.reduceLT, Nat.reduceLeDiff, Nat.reduceEqDiff, Nat.reduceMul, Nat.reducePow, Int.reduceLT, Int.reduceLE, Int.reduceAdd, Int.reduceMul, Int.reduceSub, Int.reduceNeg, Int.reduceEq, Int.reducePow, Int.reduceMod, Int.reduceDiv, Int.reduceToNat, decide_true, decide_false, and_true, true_and, and_self, Option.some.injEq, sliF, noO, someO, asI, slV, idxV, at0, at1, at2, at3, at4, at5, seqAt, lstAt, lenV, isiV, typV, kb1, kb2, kb3, kb4, kb5, kb6, kb7, kb8, kb9, kb10, kb11, sizeLine_eq, appS, g0, cut, lc, tupleV, g2]
      simp only [Tm.pv, List.map_map]
      rfl
    · obtain ⟨f, _, rfl⟩ := List.mem_map.mp ha
      exact md _ _ np
  obtain ⟨w0, a0, hw0⟩ := six (m % 6) z6
  obtain ⟨x, hx, ax⟩ := F_word (c := m / 96 % 3) (h := h) (st := st ++ [PO.lst [PV.str "plus", .str "times", .str "neg", .str "bind", .str "plus", .str "bind"]]) (bits_small (by omega) (by omega)) h0
  unfold b_L_knot
  refine ex_rt (e1 := [some (.int c), some (.int (n : Int)), some (.int h), some (.int m), none, none, none, none]) (s1 := st) (by simp only [seqS, ifS, setS, augS, dropS, retS, retN, nxS, bkS, ctS, asgS, subS, R.toS, R.bind, R.of, opF, unF, varF, cstF, chF, isB, asB, andT, orT, notT, andF, orF, notF, ifF, nilA, consA, tupF, lstF, cbF, callF, bmF', truT, truV, nameG, nilG, consG, tupG, List.set_cons_zero, List.set_cons_succ, List.getElem?_cons_zero, List.getElem?_cons_succ, Option.bind_some, Option.bind_none, Option.map_some, Option.map_none, List.length_cons, List.length_nil, List.cons_append, List.nil_append, List.append_nil, if_true, if_false, ite_true, ite_false, Bool.false_eq_true, reduceIte, reduceCtorEq, List.map_cons, List.map_nil, Nat.sub_self, List.replicate_succ, List.replicate_zero, Nat.reduceSub, Nat.reduceAdd, Nat.reduceLT, Nat.reduceLeDiff, Nat.reduceEqDiff, Nat.reduceMul, Nat.reducePow, Int.reduceLT, Int.reduceLE, Int.reduceAdd, Int.reduceMul, Int.reduceSub, Int.reduceNeg, Int.reduceEq, Int.reducePow, Int.reduceMod, Int.reduceDiv, Int.reduceToNat, decide_true, decide_false, and_true, true_and, and_self, Option.some.injEq, addV, iaddV, subV, mulV, fdivV, modV, powV, negV, cmpV, isNonV, notNonV, m1, ← hm]) ?_
  refine ex_rt (e1 := [some (.int c), some (.int (n : Int)), some (.int h), some (.int m), some (.str w0), none, none, none]) (s1 := st ++ [PO.lst [PV.str "plus", .str "times", .str "neg", .str "bind", .str "plus", .str "bind"]]) ?_ ?_
  · have hw0' := hw0
    simp only [seqS, ifS, setS, augS, dropS, retS, retN, nxS, bkS, ctS, asgS, subS, R.toS, R.bind, R.of, opF, unF, varF, cstF, chF, isB, asB, andT, orT, notT, andF, orF, notF, ifF, nilA, consA, tupF, lstF, cbF, callF, bmF', truT, truV, nameG, nilG, consG, tupG, List.set_cons_zero, List.set_cons_succ, List.getElem?_cons_zero, List.getElem?_cons_succ, Option.bind_some, Option.bind_none, Option.map_some, Option.map_none, List.length_cons, List.length_nil, List.cons_append, List.nil_append, List.append_nil, if_true, if_false, ite_true, ite_false, Bool.false_eq_true, reduceIte, reduceCtorEq, List.map_cons, List.map_nil, Nat.sub_self, List.replicate_succ, List.replicate_zero, Nat.reduceSub, Nat.reduceAdd, Nat.reduceLT, Nat.reduceLeDiff, Nat.reduceEqDiff, Nat.reduceMul, Nat.reducePow, Int.reduceLT, Int.reduceLE, Int.reduceAdd, Int.reduceMul, Int.reduceSub, Int.reduceNeg, Int.reduceEq, Int.reducePow, Int.reduceMod, Int.reduceDiv, Int.reduceToNat, decide_true, decide_false, and_true, true_and, and_self, Option.some.injEq, addV, iaddV, subV, mulV, fdivV, modV, powV, negV, cmpV, isNonV, notNonV, idxV, at0, at1, at2, at3, at4, at5, seqAt, lstAt, lenV, isiV, typV, kb1, kb2, kb3, kb4, kb5, kb6, kb7, kb8, kb9, kb10, kb11, sizeLine_eq, getS0, hw0]
  generalize ([PO.lst [PV.str "plus", .str "times", .str "neg", .str "bind", .str "plus", .str "bind"]] : Store) = g at hx ⊢
  have two : ∀ (k : Int), 1 ≤ k → k ≤ 4 → ∃ v z, (seqS (ifS (isB (opF eqV (opF modV (opF fdivV (varF 3) (cstF (.int 6))) (cstF (.int 4))) (cstF (.int 2)))) (setS 4 (callF 2 F_L_word_2 [] (consA (opF modV (opF fdivV (varF 3) (cstF (.int 96))) (cstF (.int 3))) (consA (varF 2) nilA)))) nxS)
    (seqS (setS 6 (sliF (lstF (consA (cstF (.int 40692)) (consA (cstF (.int 39373)) (consA (cstF (.int 69069)) (consA (cstF (.int 30323)) nilA))))) noO (someO (varF 5))))
    (retS (tupF (consA (cstF (.str ("of" : Str))) (consA (varF 4) (consA (cbF tupleV (consA (lcF (seqI (varF 6)) [7] (nameG 7) yesT b_L_knot_e1) nilA)) nilA))))))) [some (.int c), some (.int (n : Int)), some (.int h), some (.int m), some (.str w0), some (.int k), none, none] (st ++ g) = .rt v z ∧ Out n st v z := fun k k1 k4 => by
    by_cases e : m / 6 % 4 = 2
    · refine ex_rt (e1 := [some (.int c), some (.int (n : Int)), some (.int h), some (.int m), some (.str x), some (.int k), none, none]) (s1 := st ++ g) ?_ (fin x k g ax k1 k4)
      simp only [seqS, ifS, setS, augS, dropS, retS, retN, nxS, bkS, ctS, asgS, subS, R.toS, R.bind, R.of, opF, unF, varF, cstF, chF, isB, asB, andT, orT, notT, andF, orF, notF, ifF, nilA, consA, tupF, lstF, cbF, callF, bmF', truT, truV, nameG, nilG, consG, tupG, List.set_cons_zero, List.set_cons_succ, List.getElem?_cons_zero, List.getElem?_cons_succ, Option.bind_some, Option.bind_none, Option.map_some, Option.map_none, List.length_cons, List.length_nil, List.cons_append, List.nil_append, List.append_nil, if_true, if_false, ite_true, ite_false, Bool.false_eq_true, reduceIte, reduceCtorEq, List.map_cons, List.map_nil, Nat.sub_self, List.replicate_succ, List.replicate_zero, Nat.reduceSub, Nat.reduceAdd, Nat.reduceLT, Nat.reduceLeDiff, Nat.reduceEqDiff, Nat.reduceMul, Nat.reducePow, Int.reduceLT, Int.reduceLE, Int.reduceAdd, Int.reduceMul, Int.reduceSub, Int.reduceNeg, Int.reduceEq, Int.reducePow, Int.reduceMod, Int.reduceDiv, Int.reduceToNat, decide_true, decide_false, and_true, true_and, and_self, Option.some.injEq, addV, iaddV, subV, mulV, fdivV, modV, powV, negV, cmpV, isNonV, notNonV, eqV, neV, eqB, scEq, t1, t2, t3, t4, t5, t6, t7, t8, t9, t10, t11, t12, t13, t14, t15, t16, c6, c96, e, hx]
    · refine ex_rt (e1 := [some (.int c), some (.int (n : Int)), some (.int h), some (.int m), some (.str w0), some (.int k), none, none]) (s1 := st ++ g) ?_ (fin w0 k g a0 k1 k4)
      simp only [seqS, ifS, setS, augS, dropS, retS, retN, nxS, bkS, ctS, asgS, subS, R.toS, R.bind, R.of, opF, unF, varF, cstF, chF, isB, asB, andT, orT, notT, andF, orF, notF, ifF, nilA, consA, tupF, lstF, cbF, callF, bmF', truT, truV, nameG, nilG, consG, tupG, List.set_cons_zero, List.set_cons_succ, List.getElem?_cons_zero, List.getElem?_cons_succ, Option.bind_some, Option.bind_none, Option.map_some, Option.map_none, List.length_cons, List.length_nil, List.cons_append, List.nil_append, List.append_nil, if_true, if_false, ite_true, ite_false, Bool.false_eq_true, reduceIte, reduceCtorEq, List.map_cons, List.map_nil, Nat.sub_self, List.replicate_succ, List.replicate_zero, Nat.reduceSub, Nat.reduceAdd, Nat.reduceLT, Nat.reduceLeDiff, Nat.reduceEqDiff, Nat.reduceMul, Nat.reducePow, Int.reduceLT, Int.reduceLE, Int.reduceAdd, Int.reduceMul, Int.reduceSub, Int.reduceNeg, Int.reduceEq, Int.reducePow, Int.reduceMod, Int.reduceDiv, Int.reduceToNat, decide_true, decide_false, and_true, true_and, and_self, Option.some.injEq, addV, iaddV, subV, mulV, fdivV, modV, powV, negV, cmpV, isNonV, notNonV, eqV, neV, eqB, scEq, t1, t2, t3, t4, t5, t6, t7, t8, t9, t10, t11, t12, t13, t14, t15, t16, c6, e]
  obtain ⟨k0, hk0, k1, k2⟩ : ∃ k0, k0 = 2 - (if decide (w0 = "neg") = true then 1 else 0 : Int) ∧ 1 ≤ k0 ∧ k0 ≤ 2 := ⟨_, rfl, by split <;> omega, by split <;> omega⟩
  refine ex_rt (e1 := [some (.int c), some (.int (n : Int)), some (.int h), some (.int m), some (.str w0), some (.int k0), none, none]) (s1 := st ++ g) ?_ ?_
  · rw [hk0]
    by_cases e : w0 = "neg"
    · simp only [seqS, ifS, setS, augS, dropS, retS, retN, nxS, bkS, ctS, asgS, subS, R.toS, R.bind, R.of, opF, unF, varF, cstF, chF, isB, asB, andT, orT, notT, andF, orF, notF, ifF, nilA, consA, tupF, lstF, cbF, callF, bmF', truT, truV, nameG, nilG, consG, tupG, List.set_cons_zero, List.set_cons_succ, List.getElem?_cons_zero, List.getElem?_cons_succ, Option.bind_some, Option.bind_none, Option.map_some, Option.map_none, List.length_cons, List.length_nil, List.cons_append, List.nil_append, List.append_nil, if_true, if_false, ite_true, ite_false, Bool.false_eq_true, reduceIte, reduceCtorEq, List.map_cons, List.map_nil, Nat.sub_self, List.replicate_succ, List.replicate_zero, Nat.reduceSub, Nat.reduceAdd, Nat.reduceLT, Nat.reduceLeDiff, Nat.reduceEqDiff, Nat.reduceMul, Nat.reducePow, Int.reduceLT, Int.reduceLE, Int.reduceAdd, Int.reduceMul, Int.reduceSub, Int.reduceNeg, Int.reduceEq, Int.reducePow, Int.reduceMod, Int.reduceDiv, Int.reduceToNat, decide_true, decide_false, and_true, true_and, and_self, Option.some.injEq, addV, iaddV, subV, mulV, fdivV, modV, powV, negV, cmpV, isNonV, notNonV, eqV, eqB, scEq, intV, e]
    · simp only [seqS, ifS, setS, augS, dropS, retS, retN, nxS, bkS, ctS, asgS, subS, R.toS, R.bind, R.of, opF, unF, varF, cstF, chF, isB, asB, andT, orT, notT, andF, orF, notF, ifF, nilA, consA, tupF, lstF, cbF, callF, bmF', truT, truV, nameG, nilG, consG, tupG, List.set_cons_zero, List.set_cons_succ, List.getElem?_cons_zero, List.getElem?_cons_succ, Option.bind_some, Option.bind_none, Option.map_some, Option.map_none, List.length_cons, List.length_nil, List.cons_append, List.nil_append, List.append_nil, if_true, if_false, ite_true, ite_false, Bool.false_eq_true, reduceIte, reduceCtorEq, List.map_cons, List.map_nil, Nat.sub_self, List.replicate_succ, List.replicate_zero, Nat.reduceSub, Nat.reduceAdd, Nat.reduceLT, Nat.reduceLeDiff, Nat.reduceEqDiff, Nat.reduceMul, Nat.reducePow, Int.reduceLT, Int.reduceLE, Int.reduceAdd, Int.reduceMul, Int.reduceSub, Int.reduceNeg, Int.reduceEq, Int.reducePow, Int.reduceMod, Int.reduceDiv, Int.reduceToNat, decide_true, decide_false, and_true, true_and, and_self, Option.some.injEq, addV, iaddV, subV, mulV, fdivV, modV, powV, negV, cmpV, isNonV, notNonV, eqV, eqB, scEq, intV, e]
  by_cases e : 1 < m / 6 % 4
  · refine ex_rt (e1 := [some (.int c), some (.int (n : Int)), some (.int h), some (.int m), some (.str w0), some (.int (1 + m / 24 % 4)), none, none]) (s1 := st ++ g) ?_ (two _ (by omega) (by omega))
    simp only [seqS, ifS, setS, augS, dropS, retS, retN, nxS, bkS, ctS, asgS, subS, R.toS, R.bind, R.of, opF, unF, varF, cstF, chF, isB, asB, andT, orT, notT, andF, orF, notF, ifF, nilA, consA, tupF, lstF, cbF, callF, bmF', truT, truV, nameG, nilG, consG, tupG, List.set_cons_zero, List.set_cons_succ, List.getElem?_cons_zero, List.getElem?_cons_succ, Option.bind_some, Option.bind_none, Option.map_some, Option.map_none, List.length_cons, List.length_nil, List.cons_append, List.nil_append, List.append_nil, if_true, if_false, ite_true, ite_false, Bool.false_eq_true, reduceIte, reduceCtorEq, List.map_cons, List.map_nil, Nat.sub_self, List.replicate_succ, List.replicate_zero, Nat.reduceSub, Nat.reduceAdd, Nat.reduceLT, Nat.reduceLeDiff, Nat.reduceEqDiff, Nat.reduceMul, Nat.reducePow, Int.reduceLT, Int.reduceLE, Int.reduceAdd, Int.reduceMul, Int.reduceSub, Int.reduceNeg, Int.reduceEq, Int.reducePow, Int.reduceMod, Int.reduceDiv, Int.reduceToNat, decide_true, decide_false, and_true, true_and, and_self, Option.some.injEq, addV, iaddV, subV, mulV, fdivV, modV, powV, negV, cmpV, isNonV, notNonV, c6, c24, e]
  · refine ex_rt (e1 := [some (.int c), some (.int (n : Int)), some (.int h), some (.int m), some (.str w0), some (.int k0), none, none]) (s1 := st ++ g) ?_ (two _ (by omega) (by omega))
    simp only [seqS, ifS, setS, augS, dropS, retS, retN, nxS, bkS, ctS, asgS, subS, R.toS, R.bind, R.of, opF, unF, varF, cstF, chF, isB, asB, andT, orT, notT, andF, orF, notF, ifF, nilA, consA, tupF, lstF, cbF, callF, bmF', truT, truV, nameG, nilG, consG, tupG, List.set_cons_zero, List.set_cons_succ, List.getElem?_cons_zero, List.getElem?_cons_succ, Option.bind_some, Option.bind_none, Option.map_some, Option.map_none, List.length_cons, List.length_nil, List.cons_append, List.nil_append, List.append_nil, if_true, if_false, ite_true, ite_false, Bool.false_eq_true, reduceIte, reduceCtorEq, List.map_cons, List.map_nil, Nat.sub_self, List.replicate_succ, List.replicate_zero, Nat.reduceSub, Nat.reduceAdd, Nat.reduceLT, Nat.reduceLeDiff, Nat.reduceEqDiff, Nat.reduceMul, Nat.reducePow, Int.reduceLT, Int.reduceLE, Int.reduceAdd, Int.reduceMul, Int.reduceSub, Int.reduceNeg, Int.reduceEq, Int.reducePow, Int.reduceMod, Int.reduceDiv, Int.reduceToNat, decide_true, decide_false, and_true, true_and, and_self, Option.some.injEq, addV, iaddV, subV, mulV, fdivV, modV, powV, negV, cmpV, isNonV, notNonV, c6, e]
theorem F_term {c h : Int} {n : Nat} {st : Store} (hc : Bits c) (h0 : 0 ≤ h) : ∃ t, F_L_term [.int c, .int (n : Int), .int h] st = .ok (Tm.pv t) st ∧ t.Good n := by
  have m1 := mb hc 48271 (by decide)
  obtain ⟨m, hm⟩ : ∃ m, m = c * 48271 % 2147483647 := ⟨_, rfl⟩
  have qm : 0 ≤ m ∧ m < 2147483647 := by rw [hm]; exact md _ _ (by decide)
  have c10 : (0 < (10 : Int) ∧ (10 : Int).natAbs.log2 < 9000) := by decide
  have c50 : (0 < (50 : Int) ∧ (50 : Int).natAbs.log2 < 9000) := by decide
  have z3 := md (m / 50) 3 (by decide)
  have z4 := md (m / 50) 4 (by decide)
  obtain ⟨i, hi⟩ := F_number (st := st) hc
  obtain ⟨x1, hx1, ax1⟩ := F_word (c := m / 50 % 3) (h := h) (st := st) (bits_small (by omega) (by omega)) h0
  obtain ⟨x2, hx2, ax2⟩ := F_word (c := c) (h := h) (st := st) hc h0
  obtain ⟨w, aw, hw⟩ := four (m / 50 % 4) z4
  unfold F_L_term
  apply out_run
  unfold b_L_term
  refine ex_rt (e1 := [some (.int c), some (.int (n : Int)), some (.int h), some (.int m)]) (s1 := st) (by simp only [seqS, ifS, setS, augS, dropS, retS, retN, nxS, bkS, ctS, asgS, subS, R.toS, R.bind, R.of, opF, unF, varF, cstF, chF, isB, asB, andT, orT, notT, andF, orF, notF, ifF, nilA, consA, tupF, lstF, cbF, callF, bmF', truT, truV, nameG, nilG, consG, tupG, List.set_cons_zero, List.set_cons_succ, List.getElem?_cons_zero, List.getElem?_cons_succ, Option.bind_some, Option.bind_none, Option.map_some, Option.map_none, List.length_cons, List.length_nil, List.cons_append, List.nil_append, List.append_nil, if_true, if_false, ite_true, ite_false, Bool.false_eq_true, reduceIte, reduceCtorEq, List.map_cons, List.map_nil, Nat.sub_self, List.replicate_succ, List.replicate_zero, Nat.reduceSub, Nat.reduceAdd, Nat.reduceLT, Nat.reduceLeDiff, Nat.reduceEqDiff, Nat.reduceMul, Nat.reducePow, Int.reduceLT, Int.reduceLE, Int.reduceAdd, Int.reduceMul, Int.reduceSub, Int.reduceNeg, Int.reduceEq, Int.reducePow, Int.reduceMod, Int.reduceDiv, Int.reduceToNat, decide_true, decide_false, and_true, true_and, and_self, Option.some.injEq, addV, iaddV, subV, mulV, fdivV, modV, powV, negV, cmpV, isNonV, notNonV, m1, ← hm]) ?_
  by_cases e1 : m % 10 < 2
  · refine ⟨(Tm.num i).pv, st, ?_, _, [], rfl, trivial, (List.append_nil _).symm⟩
    refine seqS_rt ?_
    simp only [seqS, ifS, setS, augS, dropS, retS, retN, nxS, bkS, ctS, asgS, subS, R.toS, R.bind, R.of, opF, unF, varF, cstF, chF, isB, asB, andT, orT, notT, andF, orF, notF, ifF, nilA, consA, tupF, lstF, cbF, callF, bmF', truT, truV, nameG, nilG, consG, tupG, List.set_cons_zero, List.set_cons_succ, List.getElem?_cons_zero, List.getElem?_cons_succ, Option.bind_some, Option.bind_none, Option.map_some, Option.map_none, List.length_cons, List.length_nil, List.cons_append, List.nil_append, List.append_nil, if_true, if_false, ite_true, ite_false, Bool.false_eq_true, reduceIte, reduceCtorEq, List.map_cons, List.map_nil, Nat.sub_self, List.replicate_succ, List.replicate_zero, Nat.reduceSub, Nat.reduceAdd, Nat.reduceLT, Nat.reduceLeDiff, Nat.reduceEqDiff, Nat.reduceMul, Nat.reducePow, Int.reduceLT, Int.reduceLE, Int.reduceAdd, Int.reduceMul, Int.reduceSub, Int.reduceNeg, Int.reduceEq, Int.reducePow, Int.reduceMod, Int.reduceDiv, Int.reduceToNat, decide_true, decide_false, and_true, true_and, and_self, Option.some.injEq, addV, iaddV, subV, mulV, fdivV, modV, powV, negV, cmpV, isNonV, notNonV, eqV, neV, eqB, scEq, t1, t2, t3, t4, t5, t6, t7, t8, t9, t10, t11, t12, t13, t14, t15, t16, e1, hi, sizeLine_eq, Tm.pv]
  refine ex_rt (e1 := [some (.int c), some (.int (n : Int)), some (.int h), some (.int m)]) (s1 := st) (by simp only [seqS, ifS, setS, augS, dropS, retS, retN, nxS, bkS, ctS, asgS, subS, R.toS, R.bind, R.of, opF, unF, varF, cstF, chF, isB, asB, andT, orT, notT, andF, orF, notF, ifF, nilA, consA, tupF, lstF, cbF, callF, bmF', truT, truV, nameG, nilG, consG, tupG, List.set_cons_zero, List.set_cons_succ, List.getElem?_cons_zero, List.getElem?_cons_succ, Option.bind_some, Option.bind_none, Option.map_some, Option.map_none, List.length_cons, List.length_nil, List.cons_append, List.nil_append, List.append_nil, if_true, if_false, ite_true, ite_false, Bool.false_eq_true, reduceIte, reduceCtorEq, List.map_cons, List.map_nil, Nat.sub_self, List.replicate_succ, List.replicate_zero, Nat.reduceSub, Nat.reduceAdd, Nat.reduceLT, Nat.reduceLeDiff, Nat.reduceEqDiff, Nat.reduceMul, Nat.reducePow, Int.reduceLT, Int.reduceLE, Int.reduceAdd, Int.reduceMul, Int.reduceSub, Int.reduceNeg, Int.reduceEq, Int.reducePow, Int.reduceMod, Int.reduceDiv, Int.reduceToNat, decide_true, decide_false, and_true, true_and, and_self, Option.some.injEq, addV, iaddV, subV, mulV, fdivV, modV, powV, negV, cmpV, isNonV, notNonV, e1]) ?_
  by_cases e2 : m % 10 < 4 ∨ (n : Int) = 0
  · have br : ∀ (v : PV) (z : Store), (seqS (ifS (isB (opF eqV (opF modV (opF fdivV (varF 3) (cstF (.int 10))) (cstF (.int 5))) (cstF (.int 0)))) (retS (tupF (consA (cstF (.str ("name" : Str))) (consA (callF 2 F_L_word_2 [] (consA (opF modV (opF fdivV (varF 3) (cstF (.int 50))) (cstF (.int 3))) (consA (varF 2) nilA))) nilA)))) nxS)
    (seqS (ifS (isB (opF eqV (opF modV (opF fdivV (varF 3) (cstF (.int 10))) (cstF (.int 5))) (cstF (.int 1)))) (retS (tupF (consA (cstF (.str ("name" : Str))) (consA (opF idxV (lstF (consA (cstF (.str ("plus" : Str))) (consA (cstF (.str ("times" : Str))) (consA (cstF (.str ("neg" : Str))) (consA (cstF (.str ("bind" : Str))) nilA))))) (opF modV (opF fdivV (varF 3) (cstF (.int 50))) (cstF (.int 4)))) nilA)))) nxS)
    (retS (tupF (consA (cstF (.str ("name" : Str))) (consA (callF 2 F_L_word_2 [] (consA (varF 0) (consA (varF 2) nilA))) nilA)))))) [some (.int c), some (.int (n : Int)), some (.int h), some (.int m)] st = .rt v z → ∀ q : FS, seqS (ifS (orT (isB (opF ltV (opF modV (varF 3) (cstF (.int 10))) (cstF (.int 4)))) (isB (opF eqV (varF 1) (cstF (.int 0))))) (seqS (ifS (isB (opF eqV (opF modV (opF fdivV (varF 3) (cstF (.int 10))) (cstF (.int 5))) (cstF (.int 0)))) (retS (tupF (consA (cstF (.str ("name" : Str))) (consA (callF 2 F_L_word_2 [] (consA (opF modV (opF fdivV (varF 3) (cstF (.int 50))) (cstF (.int 3))) (consA (varF 2) nilA))) nilA)))) nxS)
    (seqS (ifS (isB (opF eqV (opF modV (opF fdivV (varF 3) (cstF (.int 10))) (cstF (.int 5))) (cstF (.int 1)))) (retS (tupF (consA (cstF (.str ("name" : Str))) (consA (opF idxV (lstF (consA (cstF (.str ("plus" : Str))) (consA (cstF (.str ("times" : Str))) (consA (cstF (.str ("neg" : Str))) (consA (cstF (.str ("bind" : Str))) nilA))))) (opF modV (opF fdivV (varF 3) (cstF (.int 50))) (cstF (.int 4)))) nilA)))) nxS)
    (retS (tupF (consA (cstF (.str ("name" : Str))) (consA (callF 2 F_L_word_2 [] (consA (varF 0) (consA (varF 2) nilA))) nilA)))))) nxS) q [some (.int c), some (.int (n : Int)), some (.int h), some (.int m)] st = .rt v z := fun v z hv q => by
      refine seqS_rt ?_
      refine (ifS_t (s1 := st) ?_).trans hv
      by_cases e4 : m % 10 < 4
      · simp only [seqS, ifS, setS, augS, dropS, retS, retN, nxS, bkS, ctS, asgS, subS, R.toS, R.bind, R.of, opF, unF, varF, cstF, chF, isB, asB, andT, orT, notT, andF, orF, notF, ifF, nilA, consA, tupF, lstF, cbF, callF, bmF', truT, truV, nameG, nilG, consG, tupG, List.set_cons_zero, List.set_cons_succ, List.getElem?_cons_zero, List.getElem?_cons_succ, Option.bind_some, Option.bind_none, Option.map_some, Option.map_none, List.length_cons, List.length_nil, List.cons_append, List.nil_append, List.append_nil, if_true, if_false, ite_true, ite_false, Bool.false_eq_true, reduceIte, reduceCtorEq, List.map_cons, List.map_nil, Nat.sub_self, List.replicate_succ, List.replicate_zero, Nat.reduceSub, Nat.reduceAdd, Nat.reduceLT, Nat.reduceLeDiff, Nat.reduceEqDiff, Nat.reduceMul, Nat.reducePow, Int.reduceLT, Int.reduceLE, Int.reduceAdd, Int.reduceMul, Int.reduceSub, Int.reduceNeg, Int.reduceEq, Int.reducePow, Int.reduceMod, Int.reduceDiv, Int.reduceToNat, decide_true, decide_false, and_true, true_and, and_self, Option.some.injEq, addV, iaddV, subV, mulV, fdivV, modV, powV, negV, cmpV, isNonV, notNonV, eqV, neV, eqB, scEq, t1, t2, t3, t4, t5, t6, t7, t8, t9, t10, t11, t12, t13, t14, t15, t16, e4]
      · have e5 := e2.resolve_left e4
        simp only [seqS, ifS, setS, augS, dropS, retS, retN, nxS, bkS, ctS, asgS, subS, R.toS, R.bind, R.of, opF, unF, varF, cstF, chF, isB, asB, andT, orT, notT, andF, orF, notF, ifF, nilA, consA, tupF, lstF, cbF, callF, bmF', truT, truV, nameG, nilG, consG, tupG, List.set_cons_zero, List.set_cons_succ, List.getElem?_cons_zero, List.getElem?_cons_succ, Option.bind_some, Option.bind_none, Option.map_some, Option.map_none, List.length_cons, List.length_nil, List.cons_append, List.nil_append, List.append_nil, if_true, if_false, ite_true, ite_false, Bool.false_eq_true, reduceIte, reduceCtorEq, List.map_cons, List.map_nil, Nat.sub_self, List.replicate_succ, List.replicate_zero, Nat.reduceSub, Nat.reduceAdd, Nat.reduceLT, Nat.reduceLeDiff, Nat.reduceEqDiff, Nat.reduceMul, Nat.reducePow, Int.reduceLT, Int.reduceLE, Int.reduceAdd, Int.reduceMul, Int.reduceSub, Int.reduceNeg, Int.reduceEq, Int.reducePow, Int.reduceMod, Int.reduceDiv, Int.reduceToNat, decide_true, decide_false, and_true, true_and, and_self, Option.some.injEq, addV, iaddV, subV, mulV, fdivV, modV, powV, negV, cmpV, isNonV, notNonV, eqV, neV, eqB, scEq, t1, t2, t3, t4, t5, t6, t7, t8, t9, t10, t11, t12, t13, t14, t15, t16, e4, e5]
    by_cases e3 : m / 10 % 5 = 0
    · exact ⟨(Tm.name x1).pv, st, br _ _ (by simp only [seqS, ifS, setS, augS, dropS, retS, retN, nxS, bkS, ctS, asgS, subS, R.toS, R.bind, R.of, opF, unF, varF, cstF, chF, isB, asB, andT, orT, notT, andF, orF, notF, ifF, nilA, consA, tupF, lstF, cbF, callF, bmF', truT, truV, nameG, nilG, consG, tupG, List.set_cons_zero, List.set_cons_succ, List.getElem?_cons_zero, List.getElem?_cons_succ, Option.bind_some, Option.bind_none, Option.map_some, Option.map_none, List.length_cons, List.length_nil, List.cons_append, List.nil_append, List.append_nil, if_true, if_false, ite_true, ite_false, Bool.false_eq_true, reduceIte, reduceCtorEq, List.map_cons, List.map_nil, Nat.sub_self, List.replicate_succ, List.replicate_zero, Nat.reduceSub, Nat.reduceAdd, Nat.reduceLT, Nat.reduceLeDiff, Nat.reduceEqDiff, Nat.reduceMul, Nat.reducePow, Int.reduceLT, Int.reduceLE, Int.reduceAdd, Int.reduceMul, Int.reduceSub, Int.reduceNeg, Int.reduceEq, Int.reducePow, Int.reduceMod, Int.reduceDiv, Int.reduceToNat, decide_true, decide_false, and_true, true_and, and_self, Option.some.injEq, addV, iaddV, subV, mulV, fdivV, modV, powV, negV, cmpV, isNonV, notNonV, eqV, neV, eqB, scEq, t1, t2, t3, t4, t5, t6, t7, t8, t9, t10, t11, t12, t13, t14, t15, t16, e3, c10, c50, hx1, sizeLine_eq, Tm.pv]) _, _, [], rfl, ax1, (List.append_nil _).symm⟩
    by_cases e4 : m / 10 % 5 = 1
    · exact ⟨(Tm.name w).pv, st ++ [PO.lst [PV.str "plus", .str "times", .str "neg", .str "bind"]], br _ _ (by simp only [seqS, ifS, setS, augS, dropS, retS, retN, nxS, bkS, ctS, asgS, subS, R.toS, R.bind, R.of, opF, unF, varF, cstF, chF, isB, asB, andT, orT, notT, andF, orF, notF, ifF, nilA, consA, tupF, lstF, cbF, callF, bmF', truT, truV, nameG, nilG, consG, tupG, List.set_cons_zero, List.set_cons_succ, List.getElem?_cons_zero, List.getElem?_cons_succ, Option.bind_some, Option.bind_none, Option.map_some, Option.map_none, List.length_cons, List.length_nil, List.cons_append, List.nil_append, List.append_nil, if_true, if_false, ite_true, ite_false, Bool.false_eq_true, reduceIte, reduceCtorEq, List.map_cons, List.map_nil, Nat.sub_self, List.replicate_succ, List.replicate_zero, Nat.reduceSub, Nat.reduceAdd, Nat.reduceLT, Nat.reduceLeDiff, Nat.reduceEqDiff, Nat.reduceMul, Nat.reducePow, Int.reduceLT, Int.reduceLE, Int.reduceAdd, Int.reduceMul, Int.reduceSub, Int.reduceNeg, Int.reduceEq, Int.reducePow, Int.reduceMod, Int.reduceDiv, Int.reduceToNat, decide_true, decide_false, and_true, true_and, and_self, Option.some.injEq, addV, iaddV, subV, mulV, fdivV, modV, powV, negV, cmpV, isNonV, notNonV, eqV, neV, eqB, scEq, t1, t2, t3, t4, t5, t6, t7, t8, t9, t10, t11, t12, t13, t14, t15, t16, idxV, at0, at1, at2, at3, at4, at5, seqAt, lstAt, lenV, isiV, typV, kb1, kb2, kb3, kb4, kb5, kb6, kb7, kb8, kb9, kb10, kb11, e3, e4, c10, c50, hw, getS0, sizeLine_eq, Tm.pv]) _, _, _, rfl, aw, rfl⟩
    · exact ⟨(Tm.name x2).pv, st, br _ _ (by simp only [seqS, ifS, setS, augS, dropS, retS, retN, nxS, bkS, ctS, asgS, subS, R.toS, R.bind, R.of, opF, unF, varF, cstF, chF, isB, asB, andT, orT, notT, andF, orF, notF, ifF, nilA, consA, tupF, lstF, cbF, callF, bmF', truT, truV, nameG, nilG, consG, tupG, List.set_cons_zero, List.set_cons_succ, List.getElem?_cons_zero, List.getElem?_cons_succ, Option.bind_some, Option.bind_none, Option.map_some, Option.map_none, List.length_cons, List.length_nil, List.cons_append, List.nil_append, List.append_nil, if_true, if_false, ite_true, ite_false, Bool.false_eq_true, reduceIte, reduceCtorEq, List.map_cons, List.map_nil, Nat.sub_self, List.replicate_succ, List.replicate_zero, Nat.reduceSub, Nat.reduceAdd, Nat.reduceLT, Nat.reduceLeDiff, Nat.reduceEqDiff, Nat.reduceMul, Nat.reducePow, Int.reduceLT, Int.reduceLE, Int.reduceAdd, Int.reduceMul, Int.reduceSub, Int.reduceNeg, Int.reduceEq, Int.reducePow, Int.reduceMod, Int.reduceDiv, Int.reduceToNat, decide_true, decide_false, and_true, true_and, and_self, Option.some.injEq, addV, iaddV, subV, mulV, fdivV, modV, powV, negV, cmpV, isNonV, notNonV, eqV, neV, eqB, scEq, t1, t2, t3, t4, t5, t6, t7, t8, t9, t10, t11, t12, t13, t14, t15, t16, e3, e4, c10, c50, hx2, sizeLine_eq, Tm.pv]) _, _, [], rfl, ax2, (List.append_nil _).symm⟩
  · have e4 : ¬ m % 10 < 4 := fun z => e2 (.inl z)
    have e5 : ¬ (n : Int) = 0 := fun z => e2 (.inr z)
    obtain ⟨t, ht, gt⟩ := F_knot (n := n) (st := st) hc h0 (by omega)
    refine ⟨Tm.pv t, st, ?_, t, [], rfl, gt, (List.append_nil _).symm⟩
    refine (seqS_nx (e1 := [some (.int c), some (.int (n : Int)), some (.int h), some (.int m)]) (s1 := st) (by simp only [seqS, ifS, setS, augS, dropS, retS, retN, nxS, bkS, ctS, asgS, subS, R.toS, R.bind, R.of, opF, unF, varF, cstF, chF, isB, asB, andT, orT, notT, andF, orF, notF, ifF, nilA, consA, tupF, lstF, cbF, callF, bmF', truT, truV, nameG, nilG, consG, tupG, List.set_cons_zero, List.set_cons_succ, List.getElem?_cons_zero, List.getElem?_cons_succ, Option.bind_some, Option.bind_none, Option.map_some, Option.map_none, List.length_cons, List.length_nil, List.cons_append, List.nil_append, List.append_nil, if_true, if_false, ite_true, ite_false, Bool.false_eq_true, reduceIte, reduceCtorEq, List.map_cons, List.map_nil, Nat.sub_self, List.replicate_succ, List.replicate_zero, Nat.reduceSub, Nat.reduceAdd, Nat.reduceLT, Nat.reduceLeDiff, Nat.reduceEqDiff, Nat.reduceMul, Nat.reducePow, Int.reduceLT, Int.reduceLE, Int.reduceAdd, Int.reduceMul, Int.reduceSub, Int.reduceNeg, Int.reduceEq, Int.reducePow, Int.reduceMod, Int.reduceDiv, Int.reduceToNat, decide_true, decide_false, and_true, true_and, and_self, Option.some.injEq, addV, iaddV, subV, mulV, fdivV, modV, powV, negV, cmpV, isNonV, notNonV, eqV, neV, eqB, scEq, t1, t2, t3, t4, t5, t6, t7, t8, t9, t10, t11, t12, t13, t14, t15, t16, e4, e5])).trans ?_
    simp only [seqS, ifS, setS, augS, dropS, retS, retN, nxS, bkS, ctS, asgS, subS, R.toS, R.bind, R.of, opF, unF, varF, cstF, chF, isB, asB, andT, orT, notT, andF, orF, notF, ifF, nilA, consA, tupF, lstF, cbF, callF, bmF', truT, truV, nameG, nilG, consG, tupG, List.set_cons_zero, List.set_cons_succ, List.getElem?_cons_zero, List.getElem?_cons_succ, Option.bind_some, Option.bind_none, Option.map_some, Option.map_none, List.length_cons, List.length_nil, List.cons_append, List.nil_append, List.append_nil, if_true, if_false, ite_true, ite_false, Bool.false_eq_true, reduceIte, reduceCtorEq, List.map_cons, List.map_nil, Nat.sub_self, List.replicate_succ, List.replicate_zero, Nat.reduceSub, Nat.reduceAdd, Nat.reduceLT, Nat.reduceLeDiff, Nat.reduceEqDiff, Nat.reduceMul, Nat.reducePow, Int.reduceLT, Int.reduceLE, Int.reduceAdd, Int.reduceMul, Int.reduceSub, Int.reduceNeg, Int.reduceEq, Int.reducePow, Int.reduceMod, Int.reduceDiv, Int.reduceToNat, decide_true, decide_false, and_true, true_and, and_self, Option.some.injEq, ht]
theorem run_keep' {n : Nat} {body : FS} {args : List PV} {st s' : Store} {xs : List PV} (h : body (args.map some ++ List.replicate (n - args.length) none) st = .rt (.tup xs) s') (p : refsOks st.length xs = false) : runFn n body args st = .ok (.tup xs) s' := by
  unfold runFn
  rw [h]
  show gc st (.tup xs) s' = _
  unfold gc
  split
  · rw [if_neg (by simp only [refsOk, p]; decide)]
  · rfl
/-! ### the terms of a script -/
theorem toDs_map {α : Type} {f : PV → Option PyData} {g : α → PV} : ∀ {xs : List α}, (∀ x ∈ xs, ∃ d, f (g x) = some d) → ∃ ds, toDs f (xs.map g) = some ds
  | [], _ => ⟨[], rfl⟩
  | x :: r, h => by
    obtain ⟨d, hd⟩ := h x List.mem_cons_self
    obtain ⟨ds, hds⟩ := toDs_map (xs := r) fun y hy => h y (List.mem_cons_of_mem _ hy)
    exact ⟨d :: ds, by rw [List.map_cons]; simp only [toDs, hd, hds]⟩
theorem tag_ok : PyData.strOk "num" = true ∧ PyData.strOk "name" = true ∧ PyData.strOk "of" = true := ⟨by decide +kernel, by decide +kernel, by decide +kernel⟩
theorem toD_str {k : Nat} {s : Store} {x : Str} (h : PyData.strOk x = true) : toD (k + 1) s (.str x) = some (.str x) := by simp only [toD, h, if_true]
theorem toD_pv {k n : Nat} {s : Store} : ∀ {t : Tm}, t.Good n → ∃ d, toD (k + 3) s t.pv = some d
  | .num i, _ => ⟨.tuple [.str "num", .int i], by
    show (toDs (toD (k + 2) s) [.str "num", .int i]).map PyData.tuple = _
    simp only [toDs, toD_str tag_ok.1]
    rfl⟩
  | .name x, h => ⟨.tuple [.str "name", .str x], by
    show (toDs (toD (k + 2) s) [.str "name", .str x]).map PyData.tuple = _
    simp only [toDs, toD_str tag_ok.2.1, toD_str (show PyData.strOk x = true from h)]
    rfl⟩
  | .of w as, ⟨hw, _, _⟩ => by
    obtain ⟨ds, hds⟩ := toDs_map (f := toD (k + 1) s) (g := PV.int) (xs := as) fun x _ => ⟨_, rfl⟩
    have e1 : toD (k + 2) s (.tup (as.map PV.int)) = some (.tuple ds) := by
      show (toDs (toD (k + 1) s) (as.map PV.int)).map PyData.tuple = _
      rw [hds]
      rfl
    refine ⟨.tuple [.str "of", .str w, .tuple ds], ?_⟩
    show (toDs (toD (k + 2) s) [.str "of", .str w, .tup (as.map PV.int)]).map PyData.tuple = _
    simp only [toDs, toD_str tag_ok.2.2, toD_str hw, e1]
    rfl
theorem in_terms {ts : List Tm} {t : Tm} {n r : Nat} {s : Store} (h : s[r]? = some (.lst (ts.map Tm.pv))) (ht : t.Good n) (hts : ∀ u ∈ ts, u.Good n) : ∃ b, inB t.pv (.ref r) s = some b ∧ (ts = [] → b = false) := by
  obtain ⟨d, hd⟩ := toD_pv (k := 61) (s := s) ht
  obtain ⟨ds, hds⟩ := toDs_map (f := toD 63 s) (g := Tm.pv) (xs := ts) fun u hu => toD_pv (k := 60) (hts u hu)
  have fl : flatP t.pv = false := by cases t <;> rfl
  refine ⟨ds.any fun z => PyData.eqv z d, ?_, fun e => ?_⟩
  · simp only [inB, seqAt, lstAt, h, fl, Bool.false_eq_true, false_and, if_false, hd, hds]
  · subst e
    simp only [List.map_nil, toDs, Option.some.injEq] at hds
    subst hds
    rfl
def L0 : PO := .lst [.int 3, .int 7, .int 20]
theorem F_made {ns : List Int} {st : Store} (hb : ∀ z ∈ ns, Bits z) : ∃ ts g, F_L_made [.frz (ns.map PV.int)] st = .ok (.tup [.ref (st.length + 1), .ref (st.length + 2)]) (st ++ g) ∧ (st ++ g)[st.length + 1]? = some (.lst (ts.map Tm.pv)) ∧
    (∀ t ∈ ts, t.Good ts.length) ∧ ts.length ≤ 24 ∧ (ns = [] → ts = []) := by
  have cut : cutP (ns.map PV.int) none (some 90) = (ns.take 90).map PV.int := by
    unfold cutP
    rw [sIx_some (by decide), HT.sIx_none, List.map_take, List.drop_zero, Nat.sub_zero]
    show List.take (min 90 _) _ = List.take 90 _
    rcases Nat.le_total 90 (ns.map PV.int).length with q | q
    · rw [Nat.min_eq_left q]
    · rw [Nat.min_eq_right q, List.take_of_length_le (Nat.le_refl _), List.take_of_length_le q]
  obtain ⟨hd, hhd, hd0, hd1⟩ : ∃ h, h = (if 0 < ns.length then ns.getD 0 0 % 10007 else 0) ∧ 0 ≤ h ∧ h < 10007 := ⟨_, rfl, by split; exact (md _ _ (by decide)).1; omega, by split; exact (md _ _ (by decide)).2; omega⟩
  have z3 := md hd 3 (by decide)
  obtain ⟨rate, hr, rp⟩ : ∃ r : Int, atI [PV.int 3, .int 7, .int 20] (hd % 3) = some (.int r) ∧ 0 < r := by
    have : hd % 3 = 0 ∨ hd % 3 = 1 ∨ hd % 3 = 2 := by omega
    rcases this with e | e | e <;> rw [e]
    · exact ⟨_, at0, by decide⟩
    · exact ⟨_, at1, by decide⟩
    · exact ⟨_, at2, by decide⟩
  have c60 : (0 < (60 : Int) ∧ (60 : Int).natAbs.log2 < 9000) := by decide
  have c12 : ((0 : Int) ≤ 12 ∧ (12 : Int) ≤ 1000000 ∧ (10 : Int).natAbs < 2 ^ 64) := by decide
  obtain ⟨e', st', h1, h2⟩ := forL_inv (gd := [(st.length + 3, .lst ((ns.take 90).map PV.int))]) (g := nameG 5) (b := b_L_made_s1) (xs := (ns.take 90).map PV.int)
    (fun i e s => ∃ (ts : List Tm) (es : List PV) (o5 o6 o7 o8 o9 : Option PV), s = st ++ [L0, .lst (ts.map Tm.pv), .lst es, .lst ((ns.take 90).map PV.int)] ∧ e = [some (.frz (ns.map PV.int)), some (.int hd), some (.int rate), some (.ref (st.length + 1)), some (.ref (st.length + 2)), o5, o6, o7, o8, o9] ∧
      (∀ t ∈ ts, t.Good ts.length) ∧ ts.length ≤ 24 ∧ es.length ≤ i ∧ (i = 0 → ts = []))
    (e := [some (.frz (ns.map PV.int)), some (.int hd), some (.int rate), some (.ref (st.length + 1)), some (.ref (st.length + 2)), none, none, none, none, none]) (st := st ++ [L0, .lst [], .lst [], .lst ((ns.take 90).map PV.int)])
    ⟨[], [], none, none, none, none, none, rfl, rfl, (fun _ h => by cases h), Nat.zero_le _, Nat.le_refl _, fun _ => rfl⟩
    (fun i x e s hx hP => by
      obtain ⟨ts, es, o5, o6, o7, o8, o9, rfl, rfl, hG, hl, he, h0⟩ := hP
      rw [List.getElem?_map] at hx
      obtain ⟨c, hc, rfl⟩ := Option.map_eq_some_iff.mp hx
      have cm := List.mem_of_getElem? hc
      have cB : Bits c := hb c (List.mem_of_mem_take cm)
      have il : i < 90 := by have := (List.getElem?_eq_some_iff.mp hc).1; rw [List.length_take] at this; omega
      refine ⟨gd_one (by rw [getS]; rfl), _, rfl, ?_⟩
      have g1 : ∀ a b c d : PO, (st ++ [a, b, c, d])[st.length + 1]? = some b := fun a b c d => by rw [getS]; rfl
      have g2 : ∀ a b c d : PO, (st ++ [a, b, c, d])[st.length + 2]? = some c := fun a b c d => by rw [getS]; rfl
      have s1 : ∀ a b c d o : PO, (st ++ [a, b, c, d]).set (st.length + 1) o = st ++ [a, o, c, d] := fun a b c d o => by rw [setS_app]; rfl
      have s2 : ∀ a b c d o : PO, (st ++ [a, b, c, d]).set (st.length + 2) o = st ++ [a, b, o, d] := fun a b c d o => by rw [setS_app]; rfl
      have m1 := mb cB 45991 (by decide)
      have m2 := mb cB 62089911 (by decide)
      show ∃ e2 s2, b_L_made_s1 [some (.frz (ns.map PV.int)), some (.int hd), some (.int rate), some (.ref (st.length + 1)), some (.ref (st.length + 2)), some (.int c), o6, o7, o8, o9] (st ++ [L0, .lst (ts.map Tm.pv), .lst es, .lst ((ns.take 90).map PV.int)]) = .nx e2 s2 ∧ _
      -- the term
      have A : ∃ (ts' : List Tm) (p7 : Option PV), (ifS (isB (opF ltV (cbF lenV (consA (varF 3) nilA)) (cstF (.int 24)))) (seqS (setS 7 (callF 3 F_L_term [] (consA (varF 5) (consA (cbF lenV (consA (varF 3) nilA)) (consA (varF 1) nilA)))))
    (ifS (isB (opF ninV (varF 7) (varF 3))) (dropS (bmF' "list" appendV (varF 3) (consA (varF 7) nilA))) nxS)) nxS) [some (.frz (ns.map PV.int)), some (.int hd), some (.int rate), some (.ref (st.length + 1)), some (.ref (st.length + 2)), some (.int c), o6, o7, o8, o9] (st ++ [L0, .lst (ts.map Tm.pv), .lst es, .lst ((ns.take 90).map PV.int)]) =
          .nx [some (.frz (ns.map PV.int)), some (.int hd), some (.int rate), some (.ref (st.length + 1)), some (.ref (st.length + 2)), some (.int c), o6, p7, o8, o9] (st ++ [L0, .lst (ts'.map Tm.pv), .lst es, .lst ((ns.take 90).map PV.int)]) ∧ (∀ t ∈ ts', t.Good ts'.length) ∧ ts'.length ≤ 24 ∧ ts' ≠ [] := by
        by_cases l24 : (ts.length : Int) < 24
        · obtain ⟨t, ht, tG⟩ := F_term (n := ts.length) (st := st ++ [L0, .lst (ts.map Tm.pv), .lst es, .lst ((ns.take 90).map PV.int)]) cB hd0
          obtain ⟨b, hb', b0⟩ := in_terms (s := st ++ [L0, .lst (ts.map Tm.pv), .lst es, .lst ((ns.take 90).map PV.int)]) (g1 _ _ _ _) tG hG
          cases b with
          | true =>
            refine ⟨ts, some t.pv, ?_, hG, hl, fun z => by cases b0 z⟩
            simp only [seqS, ifS, setS, augS, dropS, retS, retN, nxS, bkS, ctS, asgS, subS, R.toS, R.bind, R.of, opF, unF, varF, cstF, chF, isB, asB, andT, orT, notT, andF, orF, notF, ifF, nilA, consA, tupF, lstF, cbF, callF, bmF', truT, truV, nameG, nilG, consG, tupG, List.set_cons_zero, List.set_cons_succ, List.getElem?_cons_zero, List.getElem?_cons_succ, Option.bind_some, Option.bind_none, Option.map_some, Option.map_none, List.length_cons, List.length_nil, List.cons_append, List.nil_append, List.append_nil, if_true, if_false, ite_true, ite_false, Bool.false_eq_true, reduceIte, reduceCtorEq, List.map_cons, List.map_nil, Nat.sub_self, List.replicate_succ, List.replicate_zero, Nat.reduceSub, Nat.reduceAdd, Nat.reduceLT, Nat.reduceLeDiff, Nat.reduceEqDiff, Nat.reduceMul, Nat.reducePow, Int.reduceLT, Int.reduceLE, Int.reduceAdd, Int.reduceMul, Int.reduceSub, Int.reduceNeg, Int.reduceEq, Int.reducePow, Int.reduceMod, Int.reduceDiv, Int.reduceToNat, decide_true, decide_false, and_true, true_and, and_self, Option.some.injEq, idxV, at0, at1, at2, at3, at4, at5, seqAt, lstAt, lenV, isiV, typV, kb1, kb2, kb3, kb4, kb5, kb6, kb7, kb8, kb9, kb10, kb11, addV, iaddV, subV, mulV, fdivV, modV, powV, negV, cmpV, isNonV, notNonV, g1, List.length_map, l24, ht, ninV, hb', Bool.not_true]
          | false =>
            refine ⟨ts ++ [t], some t.pv, ?_, fun u hu => ?_, by rw [List.length_append, List.length_singleton]; omega, by simp⟩
            · have q : ts.length < 16777216 := by omega
              simp only [seqS, ifS, setS, augS, dropS, retS, retN, nxS, bkS, ctS, asgS, subS, R.toS, R.bind, R.of, opF, unF, varF, cstF, chF, isB, asB, andT, orT, notT, andF, orF, notF, ifF, nilA, consA, tupF, lstF, cbF, callF, bmF', truT, truV, nameG, nilG, consG, tupG, List.set_cons_zero, List.set_cons_succ, List.getElem?_cons_zero, List.getElem?_cons_succ, Option.bind_some, Option.bind_none, Option.map_some, Option.map_none, List.length_cons, List.length_nil, List.cons_append, List.nil_append, List.append_nil, if_true, if_false, ite_true, ite_false, Bool.false_eq_true, reduceIte, reduceCtorEq, List.map_cons, List.map_nil, Nat.sub_self, List.replicate_succ, List.replicate_zero, Nat.reduceSub, Nat.reduceAdd, Nat.reduceLT, Nat.reduceLeDiff, Nat.reduceEqDiff, Nat.reduceMul, Nat.reducePow, Int.reduceLT, Int.reduceLE, Int.reduceAdd, Int.reduceMul, Int.reduceSub, Int.reduceNeg, Int.reduceEq, Int.reducePow, Int.reduceMod, Int.reduceDiv, Int.reduceToNat, decide_true, decide_false, and_true, true_and, and_self, Option.some.injEq, idxV, at0, at1, at2, at3, at4, at5, seqAt, lstAt, lenV, isiV, typV, kb1, kb2, kb3, kb4, kb5, kb6, kb7, kb8, kb9, kb10, kb11, addV, iaddV, subV, mulV, fdivV, modV, powV, negV, cmpV, isNonV, notNonV, g1, List.length_map, l24, ht, ninV, hb', Bool.not_false, tyOk, beq_self_eq_true, appendV, sizeLine_eq, q, s1, List.map_append]
            · rw [List.length_append, List.length_singleton]
              rcases List.mem_append.mp hu with w | w
              · exact Good.up (by omega) (hG u w)
              · rw [List.mem_singleton] at w
                subst w
                exact Good.up (by omega) tG
        · refine ⟨ts, o7, ?_, hG, hl, fun z => by subst z; simp at l24⟩
          simp only [seqS, ifS, setS, augS, dropS, retS, retN, nxS, bkS, ctS, asgS, subS, R.toS, R.bind, R.of, opF, unF, varF, cstF, chF, isB, asB, andT, orT, notT, andF, orF, notF, ifF, nilA, consA, tupF, lstF, cbF, callF, bmF', truT, truV, nameG, nilG, consG, tupG, List.set_cons_zero, List.set_cons_succ, List.getElem?_cons_zero, List.getElem?_cons_succ, Option.bind_some, Option.bind_none, Option.map_some, Option.map_none, List.length_cons, List.length_nil, List.cons_append, List.nil_append, List.append_nil, if_true, if_false, ite_true, ite_false, Bool.false_eq_true, reduceIte, reduceCtorEq, List.map_cons, List.map_nil, Nat.sub_self, List.replicate_succ, List.replicate_zero, Nat.reduceSub, Nat.reduceAdd, Nat.reduceLT, Nat.reduceLeDiff, Nat.reduceEqDiff, Nat.reduceMul, Nat.reducePow, Int.reduceLT, Int.reduceLE, Int.reduceAdd, Int.reduceMul, Int.reduceSub, Int.reduceNeg, Int.reduceEq, Int.reducePow, Int.reduceMod, Int.reduceDiv, Int.reduceToNat, decide_true, decide_false, and_true, true_and, and_self, Option.some.injEq, idxV, at0, at1, at2, at3, at4, at5, seqAt, lstAt, lenV, isiV, typV, kb1, kb2, kb3, kb4, kb5, kb6, kb7, kb8, kb9, kb10, kb11, addV, iaddV, subV, mulV, fdivV, modV, powV, negV, cmpV, isNonV, notNonV, g1, List.length_map, l24]
      obtain ⟨ts', p7, A1, A2, A3, A4⟩ := A
      have pos : (0 : Int) < (ts'.length : Int) := by have := List.length_pos_iff.mpr A4; omega
      by_cases e : c * 45991 % 2147483543 % rate = 0
      · refine ⟨[some (.frz (ns.map PV.int)), some (.int hd), some (.int rate), some (.ref (st.length + 1)), some (.ref (st.length + 2)), some (.int c), some (.int (c * 45991 % 2147483543)), p7, some (.int (c * 45991 % 2147483543 / 60 % (ts'.length : Int))), some (.int (c * 62089911 % 4294967291 % (ts'.length : Int)))],
          st ++ [L0, .lst (ts'.map Tm.pv), .lst (es ++ [.tup [.int (c * 45991 % 2147483543 / 60 % (ts'.length : Int)), .int (c * 62089911 % 4294967291 % (ts'.length : Int)), .int (1 + c % 1000000000000), .tup [.str "told"]]]), .lst ((ns.take 90).map PV.int)], ?_, ts', _, _, _, _, _, _, rfl, rfl, A2, A3, by rw [List.length_append, List.length_singleton]; omega, fun z => by omega⟩
        have q : es.length < 16777216 := by omega
        unfold b_L_made_s1
        refine (seqS_nx A1).trans ?_
        simp only [seqS, ifS, setS, augS, dropS, retS, retN, nxS, bkS, ctS, asgS, subS, R.toS, R.bind, R.of, opF, unF, varF, cstF, chF, isB, asB, andT, orT, notT, andF, orF, notF, ifF, nilA, consA, tupF, lstF, cbF, callF, bmF', truT, truV, nameG, nilG, consG, tupG, List.set_cons_zero, List.set_cons_succ, List.getElem?_cons_zero, List.getElem?_cons_succ, Option.bind_some, Option.bind_none, Option.map_some, Option.map_none, List.length_cons, List.length_nil, List.cons_append, List.nil_append, List.append_nil, if_true, if_false, ite_true, ite_false, Bool.false_eq_true, reduceIte, reduceCtorEq, List.map_cons, List.map_nil, Nat.sub_self, List.replicate_succ, List.replicate_zero, Nat.reduceSub, Nat.reduceAdd, Nat.reduceLT, Nat.reduceLeDiff, Nat.reduceEqDiff, Nat.reduceMul, Nat.reducePow, Int.reduceLT, Int.reduceLE, Int.reduceAdd, Int.reduceMul, Int.reduceSub, Int.reduceNeg, Int.reduceEq, Int.reducePow, Int.reduceMod, Int.reduceDiv, Int.reduceToNat, decide_true, decide_false, and_true, true_and, and_self, Option.some.injEq, idxV, at0, at1, at2, at3, at4, at5, seqAt, lstAt, lenV, isiV, typV, kb1, kb2, kb3, kb4, kb5, kb6, kb7, kb8, kb9, kb10, kb11, addV, iaddV, subV, mulV, fdivV, modV, powV, negV, cmpV, isNonV, notNonV, eqV, neV, eqB, scEq, t1, t2, t3, t4, t5, t6, t7, t8, t9, t10, t11, t12, t13, t14, t15, t16, g1, g2, List.length_map, m1, m2, rp, e, c60, c12, pos, sizeLine_eq, tyOk, beq_self_eq_true, appendV, q, s2]
      · refine ⟨[some (.frz (ns.map PV.int)), some (.int hd), some (.int rate), some (.ref (st.length + 1)), some (.ref (st.length + 2)), some (.int c), some (.int (c * 45991 % 2147483543)), p7, o8, o9], st ++ [L0, .lst (ts'.map Tm.pv), .lst es, .lst ((ns.take 90).map PV.int)], ?_, ts', _, _, _, _, _, _, rfl, rfl, A2, A3, by omega, fun z => by omega⟩
        unfold b_L_made_s1
        refine (seqS_nx A1).trans ?_
        simp only [seqS, ifS, setS, augS, dropS, retS, retN, nxS, bkS, ctS, asgS, subS, R.toS, R.bind, R.of, opF, unF, varF, cstF, chF, isB, asB, andT, orT, notT, andF, orF, notF, ifF, nilA, consA, tupF, lstF, cbF, callF, bmF', truT, truV, nameG, nilG, consG, tupG, List.set_cons_zero, List.set_cons_succ, List.getElem?_cons_zero, List.getElem?_cons_succ, Option.bind_some, Option.bind_none, Option.map_some, Option.map_none, List.length_cons, List.length_nil, List.cons_append, List.nil_append, List.append_nil, if_true, if_false, ite_true, ite_false, Bool.false_eq_true, reduceIte, reduceCtorEq, List.map_cons, List.map_nil, Nat.sub_self, List.replicate_succ, List.replicate_zero, Nat.reduceSub, Nat.reduceAdd, Nat.reduceLT, Nat.reduceLeDiff, Nat.reduceEqDiff, Nat.reduceMul, Nat.reducePow, Int.reduceLT, Int.reduceLE, Int.reduceAdd, Int.reduceMul, Int.reduceSub, Int.reduceNeg, Int.reduceEq, Int.reducePow, Int.reduceMod, Int.reduceDiv, Int.reduceToNat, decide_true, decide_false, and_true, true_and, and_self, Option.some.injEq, idxV, at0, at1, at2, at3, at4, at5, seqAt, lstAt, lenV, isiV, typV, kb1, kb2, kb3, kb4, kb5, kb6, kb7, kb8, kb9, kb10, kb11, addV, iaddV, subV, mulV, fdivV, modV, powV, negV, cmpV, isNonV, notNonV, eqV, neV, eqB, scEq, t1, t2, t3, t4, t5, t6, t7, t8, t9, t10, t11, t12, t13, t14, t15, t16, m1, rp, e]) (fun e s hP => by
      obtain ⟨ts, es, o5, o6, o7, o8, o9, rfl, rfl, _⟩ := hP
      exact gd_one (by rw [getS]; rfl))
  obtain ⟨ts, es, o5, o6, o7, o8, o9, rfl, rfl, hG, hl, he, h0⟩ := h2
  refine ⟨ts, [L0, .lst (ts.map Tm.pv), .lst es, .lst ((ns.take 90).map PV.int)], ?_, by rw [getS]; rfl, hG, hl, fun z => h0 (by subst z; rfl)⟩
  have body : b_L_made [some (.frz (ns.map PV.int)), none, none, none, none, none, none, none, none, none] st = .rt (.tup [.ref (st.length + 1), .ref (st.length + 2)]) (st ++ [L0, .lst (ts.map Tm.pv), .lst es, .lst ((ns.take 90).map PV.int)]) := by
    unfold b_L_made
    refine (seqS_nx (e1 := [some (.frz (ns.map PV.int)), some (.int 0), none, none, none, none, none, none, none, none]) (s1 := st) rfl).trans ?_
    refine (seqS_nx (e1 := [some (.frz (ns.map PV.int)), some (.int hd), none, none, none, none, none, none, none, none]) (s1 := st) ?_).trans ?_
    · by_cases hn : 0 < ns.length
      · have hn' : (0 : Int) < ((ns.map PV.int).length : Int) := by rw [List.length_map]; omega
        rw [hhd, if_pos hn]
        have ha : atI (ns.map PV.int) 0 = some (.int (ns.getD 0 0)) := atI_nat' (by decide) (by
          rw [List.getElem?_map, List.getD_eq_getElem?_getD]
          show Option.map PV.int (ns[0]?) = _
          rw [List.getElem?_eq_getElem hn]
          rfl)
        simp only [seqS, ifS, setS, augS, dropS, retS, retN, nxS, bkS, ctS, asgS, subS, R.toS, R.bind, R.of, opF, unF, varF, cstF, chF, isB, asB, andT, orT, notT, andF, orF, notF, ifF, nilA, consA, tupF, lstF, cbF, callF, bmF', truT, truV, nameG, nilG, consG, tupG, List.set_cons_zero, List.set_cons_succ, List.getElem?_cons_zero, List.getElem?_cons_succ, Option.bind_some, Option.bind_none, Option.map_some, Option.map_none, List.length_cons, List.length_nil, List.cons_append, List.nil_append, List.append_nil, if_true, if_false, ite_true, ite_false, Bool.false_eq_true, reduceIte, reduceCtorEq, List.map_cons, List.map_nil, Nat.sub_self, List.replicate_succ, List.replicate_zero, Nat.reduceSub, Nat.reduceAdd, Nat.reduceLT, Nat.reduceLeDiff, Nat.reduceEqDiff, Nat.reduceMul, Nat.reducePow, Int.reduceLT, Int.reduceLE, Int.reduceAdd, Int.reduceMul, Int.reduceSub, Int.reduceNeg, Int.reduceEq, Int.reducePow, Int.reduceMod, Int.reduceDiv, Int.reduceToNat, decide_true, decide_false, and_true, true_and, and_self, Option.some.injEq, idxV, at0, at1, at2, at3, at4, at5, seqAt, lstAt, lenV, isiV, typV, kb1, kb2, kb3, kb4, kb5, kb6, kb7, kb8, kb9, kb10, kb11, addV, iaddV, subV, mulV, fdivV, modV, powV, negV, cmpV, isNonV, notNonV, hn', ha]
      · have hn' : ¬ (0 : Int) < ((ns.map PV.int).length : Int) := by rw [List.length_map]; omega
        rw [hhd, if_neg hn]
        simp only [seqS, ifS, setS, augS, dropS, retS, retN, nxS, bkS, ctS, asgS, subS, R.toS, R.bind, R.of, opF, unF, varF, cstF, chF, isB, asB, andT, orT, notT, andF, orF, notF, ifF, nilA, consA, tupF, lstF, cbF, callF, bmF', truT, truV, nameG, nilG, consG, tupG, List.set_cons_zero, List.set_cons_succ, List.getElem?_cons_zero, List.getElem?_cons_succ, Option.bind_some, Option.bind_none, Option.map_some, Option.map_none, List.length_cons, List.length_nil, List.cons_append, List.nil_append, List.append_nil, if_true, if_false, ite_true, ite_false, Bool.false_eq_true, reduceIte, reduceCtorEq, List.map_cons, List.map_nil, Nat.sub_self, List.replicate_succ, List.replicate_zero, Nat.reduceSub, Nat.reduceAdd, Nat.reduceLT, Nat.reduceLeDiff, Nat.reduceEqDiff, Nat.reduceMul, Nat.reducePow, Int.reduceLT, Int.reduceLE, Int.reduceAdd, Int.reduceMul, Int.reduceSub, Int.reduceNeg, Int.reduceEq, Int.reducePow, Int.reduceMod, Int.reduceDiv, Int.reduceToNat, decide_true, decide_false, and_true, true_and, and_self, Option.some.injEq, idxV, at0, at1, at2, at3, at4, at5, seqAt, lstAt, lenV, isiV, typV, kb1, kb2, kb3, kb4, kb5, kb6, kb7, kb8, kb9, kb10, kb11, addV, iaddV, subV, mulV, fdivV, modV, powV, negV, cmpV, isNonV, notNonV, hn']
    refine (seqS_nx (e1 := [some (.frz (ns.map PV.int)), some (.int hd), some (.int rate), none, none, none, none, none, none, none]) (s1 := st ++ [L0]) ?_).trans ?_
    · simp only [seqS, ifS, setS, augS, dropS, retS, retN, nxS, bkS, ctS, asgS, subS, R.toS, R.bind, R.of, opF, unF, varF, cstF, chF, isB, asB, andT, orT, notT, andF, orF, notF, ifF, nilA, consA, tupF, lstF, cbF, callF, bmF', truT, truV, nameG, nilG, consG, tupG, List.set_cons_zero, List.set_cons_succ, List.getElem?_cons_zero, List.getElem?_cons_succ, Option.bind_some, Option.bind_none, Option.map_some, Option.map_none, List.length_cons, List.length_nil, List.cons_append, List.nil_append, List.append_nil, if_true, if_false, ite_true, ite_false, Bool.false_eq_true, reduceIte, reduceCtorEq, List.map_cons, List.map_nil, Nat.sub_self, List.replicate_succ, List.replicate_zero, Nat.reduceSub, Nat.reduceAdd, Nat.reduceLT, Nat.reduceLeDiff, Nat.reduceEqDiff, Nat.reduceMul, Nat.reducePow, Int.reduceLT, Int.reduceLE, Int.reduceAdd, Int.reduceMul, Int.reduceSub, Int.reduceNeg, Int.reduceEq, Int.reducePow, Int.reduceMod, Int.reduceDiv, Int.reduceToNat, decide_true, decide_false, and_true, true_and, and_self, Option.some.injEq, idxV, at0, at1, at2, at3, at4, at5, seqAt, lstAt, lenV, isiV, typV, kb1, kb2, kb3, kb4, kb5, kb6, kb7, kb8, kb9, kb10, kb11, addV, iaddV, subV, mulV, fdivV, modV, powV, negV, cmpV, isNonV, notNonV, sizeLine_eq, getS0, hr, L0]
    simp only [seqS, ifS, setS, augS, dropS, retS, retN, nxS, bkS, ctS, asgS, subS, R.toS, R.bind, R.of, opF, unF, varF, cstF, chF, isB, asB, andT, orT, notT, andF, orF, notF, ifF, nilA, consA, tupF, lstF, cbF, callF, bmF', truT, truV, nameG, nilG, consG, tupG, List.set_cons_zero, List.set_cons_succ, List.getElem?_cons_zero, List.getElem?_cons_succ, Option.bind_some, Option.bind_none, Option.map_some, Option.map_none, List.length_cons, List.length_nil, List.cons_append, List.nil_append, List.append_nil, if_true, if_false, ite_true, ite_false, Bool.false_eq_true, reduceIte, reduceCtorEq, List.map_cons, List.map_nil, Nat.sub_self, List.replicate_succ, List.replicate_zero, Nat.reduceSub, Nat.reduceAdd, Nat.reduceLT, Nat.reduceLeDiff, Nat.reduceEqDiff, Nat.reduceMul, Nat.reducePow, Int.reduceLT, Int.reduceLE, Int.reduceAdd, Int.reduceMul, Int.reduceSub, Int.reduceNeg, Int.reduceEq, Int.reducePow, Int.reduceMod, Int.reduceDiv, Int.reduceToNat, decide_true, decide_false, and_true, true_and, and_self, Option.some.injEq, sliF, noO, someO, asI, slV, idxV, at0, at1, at2, at3, at4, at5, seqAt, lstAt, lenV, isiV, typV, kb1, kb2, kb3, kb4, kb5, kb6, kb7, kb8, kb9, kb10, kb11, sizeLine_eq, forS, seqI, gdOf, cut, appS, lenS, getS, h1]
  unfold F_L_made
  refine run_keep' body ?_
  simp only [refsOks, refsOk, decide_eq_false (show ¬ st.length + 1 < st.length by omega), Bool.false_and]
end Tm
end
end FL
end
section
set_option linter.all false
set_option maxRecDepth 100000
namespace FL
open PySem PySem.Spec PyProof.Rows L2
noncomputable section
namespace Bk
open Classical
open Tm (az_S Az)
/-! ## trees held as numbered terms -/
abbrev T := Tm.Tm
mutual
def eqT : Tr → Tr → Bool
  | .num i, .num j => decide (i = j)
  | .name x, .name y => decide (x = y)
  | .any x, .any y => decide (x = y)
  | .of w as, .of v bs => decide (w = v) && eqTs as bs
  | _, _ => false
def eqTs : List Tr → List Tr → Bool
  | [], [] => true
  | a :: r, b :: q => eqT a b && eqTs r q
  | _, _ => false
end
/-- the place of a tree among those that are held -/
def ix (us : List Tr) (x : Tr) : Int := ((us.idxOf x : Nat) : Int)
def enc (us : List Tr) : Tr → T
  | .num i => .num i
  | .name x => .name x
  | .any x => .name x
  | .of w as => .of w (as.map (ix us))
/-- arms are held; no hole stands in it; words are plain -/
def Fit (us : List Tr) : Tr → Prop
  | .num _ => True
  | .name x => Az x
  | .any _ => False
  | .of w as => Az w ∧ as.length ≤ 4 ∧ ∀ a ∈ as, a ∈ us
theorem ix_inj {us : List Tr} {a b : Tr} (ha : a ∈ us) (h : ix us a = ix us b) : a = b := by
  have h' : us.idxOf a = us.idxOf b := by unfold ix at h; omega
  have la : us.idxOf a < us.length := List.idxOf_lt_length_of_mem ha
  have e1 : us[us.idxOf a]'la = a := List.getElem_idxOf la
  have lb : us.idxOf b < us.length := by rw [← h']; exact la
  have e2 : us[us.idxOf b]'lb = b := List.getElem_idxOf lb
  rw [← e1, ← e2]
  congr 1
theorem map_ix_inj {us : List Tr} : ∀ {as bs : List Tr}, (∀ a ∈ as, a ∈ us) → as.map (ix us) = bs.map (ix us) → as = bs
  | [], [], _, _ => rfl
  | [], b :: q, _, h => by cases h
  | a :: r, [], _, h => by cases h
  | a :: r, b :: q, ha, h => by
    rw [List.map_cons, List.map_cons, List.cons.injEq] at h
    rw [ix_inj (ha a List.mem_cons_self) h.1, map_ix_inj (fun z hz => ha z (List.mem_cons_of_mem _ hz)) h.2]
theorem enc_inj {us : List Tr} : ∀ {a b : Tr}, Fit us a → Fit us b → enc us a = enc us b → a = b
  | .num i, .num j, _, _, h => by simp only [enc, Tm.Tm.num.injEq] at h; rw [h]
  | .name x, .name y, _, _, h => by simp only [enc, Tm.Tm.name.injEq] at h; rw [h]
  | .of w as, .of v bs, ha, _, h => by
    simp only [enc, Tm.Tm.of.injEq] at h
    rw [h.1, map_ix_inj ha.2.2 h.2]
  | .num _, .name _, _, _, h => by cases h
  | .num _, .of _ _, _, _, h => by cases h
  | .name _, .num _, _, _, h => by cases h
  | .name _, .of _ _, _, _, h => by cases h
  | .of _ _, .num _, _, _, h => by cases h
  | .of _ _, .name _, _, _, h => by cases h
  | .any _, _, h, _, _ => h.elim
  | _, .any _, _, h, _ => h.elim
theorem ix_app {us : List Tr} {x a : Tr} (h : a ∈ us) : ix (us ++ [x]) a = ix us a := by unfold ix; rw [List.idxOf_append, if_pos h]
theorem enc_app {us : List Tr} {x a : Tr} (h : Fit us a) : enc (us ++ [x]) a = enc us a := by
  cases a with
  | of w as =>
    simp only [enc, Tm.Tm.of.injEq, true_and]
    exact List.map_congr_left fun z hz => ix_app (h.2.2 z hz)
  | _ => rfl
theorem Fit.app {us vs : List Tr} {a : Tr} (h : Fit us a) (hv : ∀ z ∈ us, z ∈ vs) : Fit vs a := by
  cases a with
  | of w as => exact ⟨h.1, h.2.1, fun z hz => hv z (h.2.2 z hz)⟩
  | _ => exact h
theorem enc_good {us : List Tr} {a : Tr} (h : Fit us a) : (enc us a).Good us.length := by
  cases a with
  | num i => trivial
  | name x => exact h
  | any x => exact h.elim
  | of w as =>
    refine ⟨h.1, by rw [List.length_map]; exact h.2.1, fun z hz => ?_⟩
    obtain ⟨b, hb, rfl⟩ := List.mem_map.mp hz
    have := List.idxOf_lt_length_of_mem (h.2.2 b hb)
    unfold ix
    omega
/-- what is held -/
def Ok (us : List Tr) : Prop := ∀ u ∈ us, Fit us u
def rows (us : List Tr) : List PV := (us.map (enc us)).map Tm.Tm.pv
theorem rows_app {us : List Tr} {x : Tr} (h : Ok us) (hx : Fit us x) : rows (us ++ [x]) = rows us ++ [(enc us x).pv] := by
  unfold rows
  rw [List.map_append, List.map_append, List.map_cons, List.map_nil, List.map_cons, List.map_nil, enc_app hx, List.map_congr_left fun u hu => enc_app (h u hu)]
theorem Ok.app {us : List Tr} {x : Tr} (h : Ok us) (hx : Fit us x) : Ok (us ++ [x]) := fun u hu => by
  rcases List.mem_append.mp hu with q | q
  · exact (h u q).app fun z hz => List.mem_append_left _ hz
  · rw [List.mem_singleton] at q
    subst q
    exact hx.app fun z hz => List.mem_append_left _ hz
theorem rows_pure (us : List Tr) : puresP (rows us) = true := pures_iff.mpr fun x hx => by
  obtain ⟨t, _, rfl⟩ := List.mem_map.mp hx
  exact Tm.pv_pure t
theorem rows_len (us : List Tr) : (rows us).length = us.length := by simp [rows]
/-! ### equality of terms -/
theorem eqv_intsD : ∀ as bs : List Int, PyData.eqvAll (as.map PyData.int) (bs.map PyData.int) = decide (as = bs)
  | [], [] => rfl
  | [], b :: q => rfl
  | a :: r, [] => rfl
  | a :: r, b :: q => by
    show ((a == b) && PyData.eqvAll (r.map PyData.int) (q.map PyData.int)) = _
    rw [eqv_intsD r q]
    by_cases h1 : a = b <;> by_cases h2 : r = q <;> simp [h1, h2]
def dT : T → PyData
  | .num i => .tuple [.str "num", .int i]
  | .name x => .tuple [.str "name", .str x]
  | .of w as => .tuple [.str "of", .str w, .tuple (as.map PyData.int)]
theorem toDs_ints {k : Nat} {s : Store} : ∀ xs : List Int, toDs (toD (k + 1) s) (xs.map PV.int) = some (xs.map PyData.int)
  | [] => rfl
  | x :: r => by
    rw [List.map_cons, List.map_cons]
    simp only [toDs, toDs_ints r]
    rfl
theorem toD_T {k n : Nat} {s : Store} : ∀ {t : T}, t.Good n → toD (k + 3) s t.pv = some (dT t)
  | .num i, _ => by
    show (toDs (toD (k + 2) s) [.str "num", .int i]).map PyData.tuple = _
    simp only [toDs, Tm.toD_str Tm.tag_ok.1]
    rfl
  | .name x, h => by
    show (toDs (toD (k + 2) s) [.str "name", .str x]).map PyData.tuple = _
    simp only [toDs, Tm.toD_str Tm.tag_ok.2.1, Tm.toD_str (show PyData.strOk x = true from h)]
    rfl
  | .of w as, ⟨hw, _, _⟩ => by
    have e1 : toD (k + 2) s (.tup (as.map PV.int)) = some (.tuple (as.map PyData.int)) := by
      show (toDs (toD (k + 1) s) (as.map PV.int)).map PyData.tuple = _
      rw [toDs_ints]
      rfl
    show (toDs (toD (k + 2) s) [.str "of", .str w, .tup (as.map PV.int)]).map PyData.tuple = _
    simp only [toDs, Tm.toD_str Tm.tag_ok.2.2, Tm.toD_str hw, e1]
    rfl
theorem str_ne : (("num" : Str) == "name") = false ∧ (("num" : Str) == "of") = false ∧ (("name" : Str) == "num") = false ∧ (("name" : Str) == "of") = false ∧ (("of" : Str) == "num") = false ∧ (("of" : Str) == "name") = false := by decide +kernel
theorem eqv_T : ∀ t u : T, PyData.eqv (dT t) (dT u) = decide (t = u)
  | .num i, .num j => by
    show ((("num" : Str) == "num") && ((i == j) && true)) = _
    by_cases h : i = j <;> simp [h]
  | .name x, .name y => by
    show ((("name" : Str) == "name") && ((x == y) && true)) = _
    by_cases h : x = y <;> simp [h]
  | .of w as, .of v bs => by
    show ((("of" : Str) == "of") && ((w == v) && (PyData.eqvAll (as.map PyData.int) (bs.map PyData.int) && true))) = _
    rw [eqv_intsD]
    by_cases h1 : w = v <;> by_cases h2 : as = bs <;> simp [h1, h2]
  | .num i, .name y => by show ((("num" : Str) == "name") && PyData.eqvAll [.int i] [.str y]) = _; rw [str_ne.1]; simp
  | .num i, .of v bs => by show ((("num" : Str) == "of") && PyData.eqvAll [.int i] [.str v, .tuple (bs.map PyData.int)]) = _; rw [str_ne.2.1]; simp
  | .name x, .num j => by show ((("name" : Str) == "num") && PyData.eqvAll [.str x] [.int j]) = _; rw [str_ne.2.2.1]; simp
  | .name x, .of v bs => by show ((("name" : Str) == "of") && PyData.eqvAll [.str x] [.str v, .tuple (bs.map PyData.int)]) = _; rw [str_ne.2.2.2.1]; simp
  | .of w as, .num j => by show ((("of" : Str) == "num") && PyData.eqvAll [.str w, .tuple (as.map PyData.int)] [.int j]) = _; rw [str_ne.2.2.2.2.1]; simp
  | .of w as, .name y => by show ((("of" : Str) == "name") && PyData.eqvAll [.str w, .tuple (as.map PyData.int)] [.str y]) = _; rw [str_ne.2.2.2.2.2]; simp
theorem eq_T {n m : Nat} {s : Store} {t u : T} (ht : t.Good n) (hu : u.Good m) : eqV t.pv u.pv s = some (.bl (decide (t = u)), s) := by
  have e : scEq t.pv u.pv = none := by cases t <;> cases u <;> rfl
  unfold eqV eqB
  rw [e]
  simp only [toD_T (k := 61) ht, toD_T (k := 61) hu, eqv_T]
  rfl
/-! ### the bank in the store -/
def BankAt (s : Store) (n p : Nat) (us : List Tr) : Prop := s[n]? = some (.ins "Bank" [("room", .int 400), ("terms", .ref p)]) ∧ s[p]? = some (.lst (rows us))
theorem BankAt.app {s g : Store} {n p : Nat} {us : List Tr} (h : BankAt s n p us) : BankAt (s ++ g) n p us := ⟨getOld h.1, getOld h.2⟩
theorem fl1 : List.lookup ("terms" : Str) [(("room" : Str), PV.int 400), ("terms", .ref p)] = some (.ref p) := by
  have e : (("terms" : Str) == "room") = false := by decide +kernel
  simp only [List.lookup, e, beq_self_eq_true]
theorem fl2 : List.lookup ("room" : Str) [(("room" : Str), PV.int 400), ("terms", .ref p)] = some (.int 400) := by
  simp only [List.lookup, beq_self_eq_true]
theorem fl3 (m : Str) (h1 : (m == "room") = false) (h2 : (m == "terms") = false) : List.lookup m [(("room" : Str), PV.int 400), ("terms", .ref p)] = none := by
  simp only [List.lookup, h1, h2]
def pos (us : List Tr) (x : Tr) : PV := if x ∈ us then .int (ix us x) else .non
theorem pos_pure (us : List Tr) (x : Tr) : pureP (pos us x) = true := by unfold pos; split <;> rfl
theorem rows_at {us : List Tr} {i : Nat} {u : Tr} (h : us[i]? = some u) : (rows us)[i]? = some (enc us u).pv := by
  unfold rows
  rw [List.getElem?_map, List.getElem?_map, h]
  rfl
theorem eq_enc {us : List Tr} {u x : Tr} {s : Store} (hu : Fit us u) (hx : Fit us x) : eqV (enc us u).pv (enc us x).pv s = some (.bl (decide (u = x)), s) := by
  rw [eq_T (enc_good hu) (enc_good hx)]
  have : (enc us u = enc us x) = (u = x) := propext ⟨enc_inj hu hx, fun e => by rw [e]⟩
  simp only [this]
theorem enumL_at {xs : List PV} : ∀ {i k : Nat} {x : PV}, (enumL xs k)[i]? = some x → ∃ y, xs[i]? = some y ∧ x = .tup [.int ((k + i : Nat) : Int), y] := by
  induction xs with
  | nil => intro i k x h; cases h
  | cons a r ih =>
    intro i k x h
    cases i with
    | zero => cases h; exact ⟨a, rfl, rfl⟩
    | succ i =>
      obtain ⟨y, h1, rfl⟩ := ih (k := k + 1) h
      exact ⟨y, h1, by rw [Nat.add_assoc, Nat.add_comm 1 i]⟩
theorem enumL_len {xs : List PV} : ∀ {k : Nat}, (enumL xs k).length = xs.length := by
  induction xs with
  | nil => intro k; rfl
  | cons a r ih => intro k; rw [enumL, List.length_cons, ih, List.length_cons]
/-- not among the first i, and then found or at the end -/
theorem idx_first {us : List Tr} {x u : Tr} {i : Nat} (h : us[i]? = some u) (hn : x ∉ us.take i) (e : u = x) : us.idxOf x = i := by
  have hl : i < us.length := (List.getElem?_eq_some_iff.mp h).1
  have e1 : us = us.take i ++ us.drop i := (List.take_append_drop i us).symm
  have e2 : us.drop i = u :: us.drop (i + 1) := by
    rw [List.drop_eq_getElem_cons hl]
    rw [List.getElem?_eq_getElem hl] at h
    cases h
    rfl
  rw [e1, List.idxOf_append, if_neg hn, e2, e, List.idxOf_cons_self, List.length_take]
  omega
theorem F_place {n p : Nat} {us : List Tr} {x : Tr} {s : Store} (hB : BankAt s n p us) (hU : Ok us) (hx : Fit us x) : F_Bank_place [.ref n, (enc us x).pv] s = .ok (pos us x) s := by
  unfold F_Bank_place
  refine run_rt0 ?_ (pos_pure _ _)
  have key := forL_wp (gd := [(p, .lst (rows us))]) (g := tupG 2 (consG (nameG 2) (consG (nameG 3) nilG))) (b := b_Bank_place_s1)
    (fun r => (∃ e, r = .nx e s ∧ x ∉ us) ∨ (x ∈ us ∧ r = .rt (.int (ix us x)) s))
    (fun i e s' => s' = s ∧ x ∉ us.take i ∧ ∃ a b, e = [some (.ref n), some (enc us x).pv, a, b]) (k := 0) (xs := enumL (rows us) 0) (e := [some (.ref n), some (enc us x).pv, none, none]) (st := s) ⟨rfl, by simp, none, none, rfl⟩
    (fun i v e s' hv hP => by
      obtain ⟨rfl, hn, a, b, rfl⟩ := hP
      rw [Nat.zero_add] at hn ⊢
      obtain ⟨y, hy, rfl⟩ := enumL_at hv
      have il : i < us.length := by have := (List.getElem?_eq_some_iff.mp hy).1; rwa [rows_len] at this
      obtain ⟨u, hu⟩ : ∃ u, us[i]? = some u := ⟨_, List.getElem?_eq_getElem il⟩
      rw [rows_at hu] at hy
      cases hy
      refine ⟨gd_one hB.2, _, rfl, ?_⟩
      have um := List.mem_of_getElem? hu
      have q := eq_enc (s := s') (hU u um) hx
      by_cases e : u = x
      · have q' := q
        rw [decide_eq_true e] at q'
        have r : b_Bank_place_s1 [some (.ref n), some (enc us x).pv, some (.int ((0 + i : Nat) : Int)), some (enc us u).pv] s' = .rt (.int ((0 + i : Nat) : Int)) s' := by
          simp only [b_Bank_place_s1, seqS, ifS, setS, augS, dropS, retS, retN, nxS, bkS, ctS, asgS, subS, R.toS, R.bind, R.of, opF, unF, varF, cstF, chF, isB, asB, andT, orT, notT, andF, orF, notF, ifF, nilA, consA, tupF, lstF, cbF, callF, bmF', truT, truV, nameG, nilG, consG, tupG, List.set_cons_zero, List.set_cons_succ, List.getElem?_cons_zero, List.getElem?_cons_succ, Option.bind_some, Option.bind_none, Option.map_some, Option.map_none, List.length_cons, List.length_nil, List.cons_append, List.nil_append, List.append_nil, if_true, if_false, ite_true, ite_false, Bool.false_eq_true, reduceIte, reduceCtorEq, List.map_cons, List.map_nil, Nat.sub_self, List.replicate_succ, List.replicate_zero, Nat.reduceSub, Nat.reduceAdd, Nat.reduceLT, Nat.reduceLeDiff, Nat.reduceEqDiff, Nat.reduceMul, Nat.reducePow, Int.reduceLT, Int.reduceLE, Int.reduceAdd, Int.reduceMul, Int.reduceSub, Int.reduceNeg, Int.reduceEq, Int.reducePow, Int.reduceMod, Int.reduceDiv, Int.reduceToNat, decide_true, decide_false, and_true, true_and, and_self, Option.some.injEq, q']
        show match b_Bank_place_s1 [some (.ref n), some (enc us x).pv, some (.int ((0 + i : Nat) : Int)), some (enc us u).pv] s' with
          | .nx e2 s2 => _
          | .ct e2 s2 => _
          | .bk e2 s2 => _
          | r => _
        rw [r]
        refine .inr ⟨by rw [← e]; exact um, ?_⟩
        unfold ix
        rw [idx_first hu hn e, Nat.zero_add]
      · have r : b_Bank_place_s1 [some (.ref n), some (enc us x).pv, some (.int ((0 + i : Nat) : Int)), some (enc us u).pv] s' = .nx [some (.ref n), some (enc us x).pv, some (.int ((0 + i : Nat) : Int)), some (enc us u).pv] s' := by
          simp only [b_Bank_place_s1, seqS, ifS, setS, augS, dropS, retS, retN, nxS, bkS, ctS, asgS, subS, R.toS, R.bind, R.of, opF, unF, varF, cstF, chF, isB, asB, andT, orT, notT, andF, orF, notF, ifF, nilA, consA, tupF, lstF, cbF, callF, bmF', truT, truV, nameG, nilG, consG, tupG, List.set_cons_zero, List.set_cons_succ, List.getElem?_cons_zero, List.getElem?_cons_succ, Option.bind_some, Option.bind_none, Option.map_some, Option.map_none, List.length_cons, List.length_nil, List.cons_append, List.nil_append, List.append_nil, if_true, if_false, ite_true, ite_false, Bool.false_eq_true, reduceIte, reduceCtorEq, List.map_cons, List.map_nil, Nat.sub_self, List.replicate_succ, List.replicate_zero, Nat.reduceSub, Nat.reduceAdd, Nat.reduceLT, Nat.reduceLeDiff, Nat.reduceEqDiff, Nat.reduceMul, Nat.reducePow, Int.reduceLT, Int.reduceLE, Int.reduceAdd, Int.reduceMul, Int.reduceSub, Int.reduceNeg, Int.reduceEq, Int.reducePow, Int.reduceMod, Int.reduceDiv, Int.reduceToNat, decide_true, decide_false, and_true, true_and, and_self, Option.some.injEq, q, e]
        show match b_Bank_place_s1 [some (.ref n), some (enc us x).pv, some (.int ((0 + i : Nat) : Int)), some (enc us u).pv] s' with
          | .nx e2 s2 => _
          | .ct e2 s2 => _
          | .bk e2 s2 => _
          | r => _
        rw [r]
        refine ⟨rfl, ?_, _, _, rfl⟩
        rw [List.take_add_one, hu]
        simp only [Option.toList_some, List.mem_append, List.mem_singleton, not_or]
        exact ⟨hn, fun z => e z.symm⟩) (fun e s' hP => by
      obtain ⟨rfl, hn, a, b, rfl⟩ := hP
      rw [Nat.zero_add, enumL_len, rows_len, List.take_length] at hn
      exact ⟨gd_one hB.2, .inl ⟨_, rfl, hn⟩⟩)
  have hf : ∀ e, forS (enumI (consA (fldF "Bank" ("terms" : Str) (varF 0)) nilA)) (tupG 2 (consG (nameG 2) (consG (nameG 3) nilG))) b_Bank_place_s1 [some (.ref n), some (enc us x).pv, none, none] s = e → forL [(p, .lst (rows us))] (tupG 2 (consG (nameG 2) (consG (nameG 3) nilG))) b_Bank_place_s1 (enumL (rows us) 0) [some (.ref n), some (enc us x).pv, none, none] s = e := fun e h => by
    rw [← h]
    simp only [forS, enumI, fldF, seqS, ifS, setS, augS, dropS, retS, retN, nxS, bkS, ctS, asgS, subS, R.toS, R.bind, R.of, opF, unF, varF, cstF, chF, isB, asB, andT, orT, notT, andF, orF, notF, ifF, nilA, consA, tupF, lstF, cbF, callF, bmF', truT, truV, nameG, nilG, consG, tupG, List.set_cons_zero, List.set_cons_succ, List.getElem?_cons_zero, List.getElem?_cons_succ, Option.bind_some, Option.bind_none, Option.map_some, Option.map_none, List.length_cons, List.length_nil, List.cons_append, List.nil_append, List.append_nil, if_true, if_false, ite_true, ite_false, Bool.false_eq_true, reduceIte, reduceCtorEq, List.map_cons, List.map_nil, Nat.sub_self, List.replicate_succ, List.replicate_zero, Nat.reduceSub, Nat.reduceAdd, Nat.reduceLT, Nat.reduceLeDiff, Nat.reduceEqDiff, Nat.reduceMul, Nat.reducePow, Int.reduceLT, Int.reduceLE, Int.reduceAdd, Int.reduceMul, Int.reduceSub, Int.reduceNeg, Int.reduceEq, Int.reducePow, Int.reduceMod, Int.reduceDiv, Int.reduceToNat, decide_true, decide_false, and_true, true_and, and_self, Option.some.injEq, hB.1, hB.2, fl1, lstAt, gdOf]
  have hf := (hf _ rfl).symm
  unfold pos
  unfold b_Bank_place
  show seqS _ _ [some (.ref n), some (enc us x).pv, none, none] s = _
  rcases key with ⟨e, h1, h2⟩ | ⟨h2, h1⟩
  · rw [if_neg h2]
    refine (seqS_nx (hf.trans h1)).trans ?_
    simp only [seqS, ifS, setS, augS, dropS, retS, retN, nxS, bkS, ctS, asgS, subS, R.toS, R.bind, R.of, opF, unF, varF, cstF, chF, isB, asB, andT, orT, notT, andF, orF, notF, ifF, nilA, consA, tupF, lstF, cbF, callF, bmF', truT, truV, nameG, nilG, consG, tupG, List.set_cons_zero, List.set_cons_succ, List.getElem?_cons_zero, List.getElem?_cons_succ, Option.bind_some, Option.bind_none, Option.map_some, Option.map_none, List.length_cons, List.length_nil, List.cons_append, List.nil_append, List.append_nil, if_true, if_false, ite_true, ite_false, Bool.false_eq_true, reduceIte, reduceCtorEq, List.map_cons, List.map_nil, Nat.sub_self, List.replicate_succ, List.replicate_zero, Nat.reduceSub, Nat.reduceAdd, Nat.reduceLT, Nat.reduceLeDiff, Nat.reduceEqDiff, Nat.reduceMul, Nat.reducePow, Int.reduceLT, Int.reduceLE, Int.reduceAdd, Int.reduceMul, Int.reduceSub, Int.reduceNeg, Int.reduceEq, Int.reducePow, Int.reduceMod, Int.reduceDiv, Int.reduceToNat, decide_true, decide_false, and_true, true_and, and_self, Option.some.injEq]
  · rw [if_pos h2]
    exact seqS_rt (hf.trans h1)
theorem F_held {r : Nat} {us : List Tr} {x : Tr} {s : Store} (hB : s[r]? = some (.lst (rows us))) (hU : Ok us) (hx : Fit us x) (hl : us.length ≤ 1000) : F_L_held [.ref r, (enc us x).pv] s = .ok (pos us x) s := by
  unfold F_L_held
  refine run_rt0 ?_ (pos_pure _ _)
  have key := forL_wp (gd := []) (g := nameG 2) (b := b_L_held_s1)
    (fun q => (∃ e, q = .nx e s ∧ x ∉ us) ∨ (x ∈ us ∧ q = .rt (.int (ix us x)) s))
    (fun i e s' => s' = s ∧ x ∉ us.take i ∧ ∃ a, e = [some (.ref r), some (enc us x).pv, a]) (k := 0) (xs := intL 0 1 us.length) (e := [some (.ref r), some (enc us x).pv, none]) (st := s) ⟨rfl, by simp, none, rfl⟩
    (fun i v e s' hv hP => by
      obtain ⟨rfl, hn, a, rfl⟩ := hP
      rw [Nat.zero_add] at hn ⊢
      have il : i < us.length := by have := (List.getElem?_eq_some_iff.mp hv).1; simpa [intL] using this
      have hv' : v = .int (0 + (i : Nat) * 1) := by
        unfold intL at hv
        rw [List.getElem?_map, List.getElem?_range il] at hv
        simpa using hv.symm
      subst hv'
      obtain ⟨u, hu⟩ : ∃ u, us[i]? = some u := ⟨_, List.getElem?_eq_getElem il⟩
      refine ⟨gd_nil _, _, rfl, ?_⟩
      have um := List.mem_of_getElem? hu
      have q := eq_enc (s := s') (hU u um) hx
      have ha : atI (rows us) (0 + (i : Int) * 1) = some (enc us u).pv := atI_nat' (by omega) (by rw [show (0 + (i : Int) * 1).toNat = i by omega]; exact rows_at hu)
      by_cases e : u = x
      · have q' := q
        rw [decide_eq_true e] at q'
        have h : b_L_held_s1 [some (.ref r), some (enc us x).pv, some (.int (0 + (i : Nat) * 1))] s' = .rt (.int (0 + (i : Nat) * 1)) s' := by
          simp only [b_L_held_s1, seqS, ifS, setS, augS, dropS, retS, retN, nxS, bkS, ctS, asgS, subS, R.toS, R.bind, R.of, opF, unF, varF, cstF, chF, isB, asB, andT, orT, notT, andF, orF, notF, ifF, nilA, consA, tupF, lstF, cbF, callF, bmF', truT, truV, nameG, nilG, consG, tupG, List.set_cons_zero, List.set_cons_succ, List.getElem?_cons_zero, List.getElem?_cons_succ, Option.bind_some, Option.bind_none, Option.map_some, Option.map_none, List.length_cons, List.length_nil, List.cons_append, List.nil_append, List.append_nil, if_true, if_false, ite_true, ite_false, Bool.false_eq_true, reduceIte, reduceCtorEq, List.map_cons, List.map_nil, Nat.sub_self, List.replicate_succ, List.replicate_zero, Nat.reduceSub, Nat.reduceAdd, Nat.reduceLT, Nat.reduceLeDiff, Nat.reduceEqDiff, Nat.reduceMul, Nat.reducePow, Int.reduceLT, Int.reduceLE, Int.reduceAdd, Int.reduceMul, Int.reduceSub, Int.reduceNeg, Int.reduceEq, Int.reducePow, Int.reduceMod, Int.reduceDiv, Int.reduceToNat, decide_true, decide_false, and_true, true_and, and_self, Option.some.injEq, idxV, at0, at1, at2, at3, at4, at5, seqAt, lstAt, lenV, isiV, typV, kb1, kb2, kb3, kb4, kb5, kb6, kb7, kb8, kb9, kb10, kb11, hB, ha, q']
        show match b_L_held_s1 [some (.ref r), some (enc us x).pv, some (.int (0 + (i : Nat) * 1))] s' with
          | .nx e2 s2 => _
          | .ct e2 s2 => _
          | .bk e2 s2 => _
          | r => _
        rw [h]
        refine .inr ⟨by rw [← e]; exact um, ?_⟩
        unfold ix
        rw [idx_first hu hn e]
        congr 2
        omega
      · have h : b_L_held_s1 [some (.ref r), some (enc us x).pv, some (.int (0 + (i : Nat) * 1))] s' = .nx [some (.ref r), some (enc us x).pv, some (.int (0 + (i : Nat) * 1))] s' := by
          simp only [b_L_held_s1, seqS, ifS, setS, augS, dropS, retS, retN, nxS, bkS, ctS, asgS, subS, R.toS, R.bind, R.of, opF, unF, varF, cstF, chF, isB, asB, andT, orT, notT, andF, orF, notF, ifF, nilA, consA, tupF, lstF, cbF, callF, bmF', truT, truV, nameG, nilG, consG, tupG, List.set_cons_zero, List.set_cons_succ, List.getElem?_cons_zero, List.getElem?_cons_succ, Option.bind_some, Option.bind_none, Option.map_some, Option.map_none, List.length_cons, List.length_nil, List.cons_append, List.nil_append, List.append_nil, if_true, if_false, ite_true, ite_false, Bool.false_eq_true, reduceIte, reduceCtorEq, List.map_cons, List.map_nil, Nat.sub_self, List.replicate_succ, List.replicate_zero, Nat.reduceSub, Nat.reduceAdd, Nat.reduceLT, Nat.reduceLeDiff, Nat.reduceEqDiff, Nat.reduceMul, Nat.reducePow, Int.reduceLT, Int.reduceLE, Int.reduceAdd, Int.reduceMul, Int.reduceSub, Int.reduceNeg, Int.reduceEq, Int.reducePow, Int.reduceMod, Int.reduceDiv, Int.reduceToNat, decide_true, decide_false, and_true, true_and, and_self, Option.some.injEq, idxV, at0, at1, at2, at3, at4, at5, seqAt, lstAt, lenV, isiV, typV, kb1, kb2, kb3, kb4, kb5, kb6, kb7, kb8, kb9, kb10, kb11, hB, ha, q, e]
        show match b_L_held_s1 [some (.ref r), some (enc us x).pv, some (.int (0 + (i : Nat) * 1))] s' with
          | .nx e2 s2 => _
          | .ct e2 s2 => _
          | .bk e2 s2 => _
          | r => _
        rw [h]
        refine ⟨rfl, ?_, _, rfl⟩
        rw [List.take_add_one, hu]
        simp only [Option.toList_some, List.mem_append, List.mem_singleton, not_or]
        exact ⟨hn, fun z => e z.symm⟩) (fun e s' hP => by
      obtain ⟨rfl, hn, a, rfl⟩ := hP
      rw [Nat.zero_add] at hn
      have : us.take (intL 0 1 us.length).length = us := by simp [intL]
      rw [this] at hn
      exact ⟨gd_nil _, .inl ⟨_, rfl, hn⟩⟩)
  have hr : rng1I (consA (cbF lenV (consA (varF 0) nilA)) nilA) [some (.ref r), some (enc us x).pv, none] s = .ok ⟨intL 0 1 us.length, []⟩ s := by
    unfold rng1I
    have h : consA (cbF lenV (consA (varF 0) nilA)) nilA [some (.ref r), some (enc us x).pv, none] s = .ok [.int (us.length : Int)] s := by simp only [seqS, ifS, setS, augS, dropS, retS, retN, nxS, bkS, ctS, asgS, subS, R.toS, R.bind, R.of, opF, unF, varF, cstF, chF, isB, asB, andT, orT, notT, andF, orF, notF, ifF, nilA, consA, tupF, lstF, cbF, callF, bmF', truT, truV, nameG, nilG, consG, tupG, List.set_cons_zero, List.set_cons_succ, List.getElem?_cons_zero, List.getElem?_cons_succ, Option.bind_some, Option.bind_none, Option.map_some, Option.map_none, List.length_cons, List.length_nil, List.cons_append, List.nil_append, List.append_nil, if_true, if_false, ite_true, ite_false, Bool.false_eq_true, reduceIte, reduceCtorEq, List.map_cons, List.map_nil, Nat.sub_self, List.replicate_succ, List.replicate_zero, Nat.reduceSub, Nat.reduceAdd, Nat.reduceLT, Nat.reduceLeDiff, Nat.reduceEqDiff, Nat.reduceMul, Nat.reducePow, Int.reduceLT, Int.reduceLE, Int.reduceAdd, Int.reduceMul, Int.reduceSub, Int.reduceNeg, Int.reduceEq, Int.reducePow, Int.reduceMod, Int.reduceDiv, Int.reduceToNat, decide_true, decide_false, and_true, true_and, and_self, Option.some.injEq, idxV, at0, at1, at2, at3, at4, at5, seqAt, lstAt, lenV, isiV, typV, kb1, kb2, kb3, kb4, kb5, kb6, kb7, kb8, kb9, kb10, kb11, hB, rows_len]
    rw [h, bind_ok]
    show (if -(2 ^ 62) ≤ (us.length : Int) ∧ (us.length : Int) < 2 ^ 62 then _ else _) = _
    rw [if_pos ⟨by omega, by omega⟩, Int.toNat_natCast]
  unfold pos
  unfold b_L_held
  show seqS _ _ [some (.ref r), some (enc us x).pv, none] s = _
  have hf : forS (rng1I (consA (cbF lenV (consA (varF 0) nilA)) nilA)) (nameG 2) b_L_held_s1 [some (.ref r), some (enc us x).pv, none] s = forL [] (nameG 2) b_L_held_s1 (intL 0 1 us.length) [some (.ref r), some (enc us x).pv, none] s := by
    unfold forS
    rw [hr, toS_ok]
  rcases key with ⟨e, h1, h2⟩ | ⟨h2, h1⟩
  · rw [if_neg h2]
    refine (seqS_nx (hf.trans h1)).trans ?_
    simp only [seqS, ifS, setS, augS, dropS, retS, retN, nxS, bkS, ctS, asgS, subS, R.toS, R.bind, R.of, opF, unF, varF, cstF, chF, isB, asB, andT, orT, notT, andF, orF, notF, ifF, nilA, consA, tupF, lstF, cbF, callF, bmF', truT, truV, nameG, nilG, consG, tupG, List.set_cons_zero, List.set_cons_succ, List.getElem?_cons_zero, List.getElem?_cons_succ, Option.bind_some, Option.bind_none, Option.map_some, Option.map_none, List.length_cons, List.length_nil, List.cons_append, List.nil_append, List.append_nil, if_true, if_false, ite_true, ite_false, Bool.false_eq_true, reduceIte, reduceCtorEq, List.map_cons, List.map_nil, Nat.sub_self, List.replicate_succ, List.replicate_zero, Nat.reduceSub, Nat.reduceAdd, Nat.reduceLT, Nat.reduceLeDiff, Nat.reduceEqDiff, Nat.reduceMul, Nat.reducePow, Int.reduceLT, Int.reduceLE, Int.reduceAdd, Int.reduceMul, Int.reduceSub, Int.reduceNeg, Int.reduceEq, Int.reducePow, Int.reduceMod, Int.reduceDiv, Int.reduceToNat, decide_true, decide_false, and_true, true_and, and_self, Option.some.injEq]
  · rw [if_pos h2]
    exact seqS_rt (hf.trans h1)
theorem set_same {s : Store} {W : Nat} {o : PO} (h : s[W]? = some o) : s.set W o = s := by
  apply List.ext_getElem?
  intro i
  by_cases hi : W = i
  · subst hi
    rw [List.getElem?_set_self (List.getElem?_eq_some_iff.mp h).1, h]
  · rw [List.getElem?_set_ne hi]
theorem run_set {n p : Nat} {body : FS} {args : List PV} {st g : Store} {v : PV} {o : PO} (h : body (args.map some ++ List.replicate (n - args.length) none) st = .rt v (st.set p o ++ g)) (hv : pureP v = true) (hp : p < st.length) (ho : objOk st.length o = true) : runFn n body args st = .ok v (st.set p o) := by
  unfold runFn
  rw [h]
  show gc st v (st.set p o ++ g) = _
  unfold gc
  have c : st.length ≤ (st.set p o ++ g).length ∧ preOk st (st.set p o ++ g) := by
    refine ⟨by simp, fun k hk => ?_⟩
    rw [List.getElem?_append_left (by rw [List.length_set]; exact hk)]
    by_cases e : p = k
    · subst e
      exact .inr ⟨o, List.getElem?_set_self hp, ho⟩
    · exact .inl (List.getElem?_set_ne e)
  rw [if_pos c, if_pos (pure_refs _ hv), List.take_left' (List.length_set ..)]
def holdT (us : List Tr) (x : Tr) : List Tr := if x ∈ us then us else us ++ [x]
theorem ix_new {us : List Tr} {x : Tr} (h : x ∉ us) : ix (us ++ [x]) x = us.length := by
  unfold ix
  rw [List.idxOf_append, if_neg h, List.idxOf_cons_self]
  simp
theorem ix_pre {us r : List Tr} {a : Tr} (h : a ∈ us) : ix (us ++ r) a = ix us a := by unfold ix; rw [List.idxOf_append, if_pos h]
theorem BankAt.lt {s : Store} {n p : Nat} {us : List Tr} (h : BankAt s n p us) : p < s.length := (List.getElem?_eq_some_iff.mp h.2).1
theorem BankAt.ne {s : Store} {n p : Nat} {us : List Tr} (h : BankAt s n p us) : p ≠ n := fun e => by
  have := h.1
  rw [← e, h.2] at this
  cases this
theorem BankAt.set {s : Store} {n p : Nat} {us vs : List Tr} (h : BankAt s n p us) : BankAt (s.set p (.lst (rows vs))) n p vs := ⟨by rw [List.getElem?_set_ne h.ne]; exact h.1, List.getElem?_set_self h.lt⟩
theorem rows_ok (n : Nat) (us : List Tr) : objOk n (.lst (rows us)) = true := by simp only [objOk]; exact pures_refs _ (rows_pure us)
theorem F_hold {n p : Nat} {us : List Tr} {x : Tr} {s : Store} (hB : BankAt s n p us) (hU : Ok us) (hx : Fit us x) (hl : us.length < 400) : F_Bank_hold [.ref n, (enc us x).pv] s = .ok (.int (ix (holdT us x) x)) (s.set p (.lst (rows (holdT us x)))) := by
  have hp := F_place hB hU hx
  have n1 : List.lookup ("place" : Str) [(("room" : Str), PV.int 400), ("terms", .ref p)] = none := fl3 "place" (by decide +kernel) (by decide +kernel)
  unfold F_Bank_hold holdT
  by_cases h : x ∈ us
  · rw [if_pos h, set_same hB.2]
    refine run_rt0 ?_ rfl
    have pe : pos us x = .int (ix us x) := by unfold pos; rw [if_pos h]
    rw [pe] at hp
    simp only [b_Bank_hold, methF, seqS, ifS, setS, augS, dropS, retS, retN, nxS, bkS, ctS, asgS, subS, R.toS, R.bind, R.of, opF, unF, varF, cstF, chF, isB, asB, andT, orT, notT, andF, orF, notF, ifF, nilA, consA, tupF, lstF, cbF, callF, bmF', truT, truV, nameG, nilG, consG, tupG, List.set_cons_zero, List.set_cons_succ, List.getElem?_cons_zero, List.getElem?_cons_succ, Option.bind_some, Option.bind_none, Option.map_some, Option.map_none, List.length_cons, List.length_nil, List.cons_append, List.nil_append, List.append_nil, if_true, if_false, ite_true, ite_false, Bool.false_eq_true, reduceIte, reduceCtorEq, List.map_cons, List.map_nil, Nat.sub_self, List.replicate_succ, List.replicate_zero, Nat.reduceSub, Nat.reduceAdd, Nat.reduceLT, Nat.reduceLeDiff, Nat.reduceEqDiff, Nat.reduceMul, Nat.reducePow, Int.reduceLT, Int.reduceLE, Int.reduceAdd, Int.reduceMul, Int.reduceSub, Int.reduceNeg, Int.reduceEq, Int.reducePow, Int.reduceMod, Int.reduceDiv, Int.reduceToNat, decide_true, decide_false, and_true, true_and, and_self, Option.some.injEq, addV, iaddV, subV, mulV, fdivV, modV, powV, negV, cmpV, isNonV, notNonV, hB.1, n1, hp, Bool.not_false]
  · rw [if_neg h, ix_new h, rows_app hU hx]
    have pe : pos us x = .non := by unfold pos; rw [if_neg h]
    rw [pe] at hp
    have lt : ¬ (400 : Int) ≤ (us.length : Int) := by omega
    have q : us.length < 16777216 := by omega
    have e1 : (s.set p (.lst (rows us ++ [(enc us x).pv])))[n]? = some (.ins "Bank" [("room", .int 400), ("terms", .ref p)]) := by rw [List.getElem?_set_ne hB.ne]; exact hB.1
    have e2 : (s.set p (.lst (rows us ++ [(enc us x).pv])))[p]? = some (.lst (rows us ++ [(enc us x).pv])) := List.getElem?_set_self hB.lt
    have e3 : ((rows us ++ [(enc us x).pv]).length : Int) - 1 = (us.length : Int) := by rw [List.length_append, rows_len]; simp
    refine run_set (g := []) ?_ rfl hB.lt (by rw [← rows_app hU hx]; exact rows_ok _ _)
    rw [List.append_nil]
    simp only [b_Bank_hold, methF, fldF, noS, seqS, ifS, setS, augS, dropS, retS, retN, nxS, bkS, ctS, asgS, subS, R.toS, R.bind, R.of, opF, unF, varF, cstF, chF, isB, asB, andT, orT, notT, andF, orF, notF, ifF, nilA, consA, tupF, lstF, cbF, callF, bmF', truT, truV, nameG, nilG, consG, tupG, List.set_cons_zero, List.set_cons_succ, List.getElem?_cons_zero, List.getElem?_cons_succ, Option.bind_some, Option.bind_none, Option.map_some, Option.map_none, List.length_cons, List.length_nil, List.cons_append, List.nil_append, List.append_nil, if_true, if_false, ite_true, ite_false, Bool.false_eq_true, reduceIte, reduceCtorEq, List.map_cons, List.map_nil, Nat.sub_self, List.replicate_succ, List.replicate_zero, Nat.reduceSub, Nat.reduceAdd, Nat.reduceLT, Nat.reduceLeDiff, Nat.reduceEqDiff, Nat.reduceMul, Nat.reducePow, Int.reduceLT, Int.reduceLE, Int.reduceAdd, Int.reduceMul, Int.reduceSub, Int.reduceNeg, Int.reduceEq, Int.reducePow, Int.reduceMod, Int.reduceDiv, Int.reduceToNat, decide_true, decide_false, and_true, true_and, and_self, Option.some.injEq, addV, iaddV, subV, mulV, fdivV, modV, powV, negV, cmpV, isNonV, notNonV, idxV, at0, at1, at2, at3, at4, at5, seqAt, lstAt, lenV, isiV, typV, kb1, kb2, kb3, kb4, kb5, kb6, kb7, kb8, kb9, kb10, kb11, hB.1, hB.2, fl1, fl2, n1, hp, Bool.not_true, rows_len, lt, tyOk, beq_self_eq_true, appendV, sizeLine_eq, q, e1, e2, e3]
mutual
def putT : List Tr → Tr → List Tr
  | us, .of w as => holdT (putL us as) (.of w as)
  | us, .num i => holdT us (.num i)
  | us, .name x => holdT us (.name x)
  | us, .any x => holdT us (.any x)
def putL : List Tr → List Tr → List Tr
  | us, [] => us
  | us, a :: r => putL (putT us a) r
end
/-- good steps -/
structure Step (ts us vs : List Tr) : Prop where
  pre : ∃ r, vs = us ++ r
  ok : Ok vs
  sub : ∀ u ∈ vs, u ∈ ts
  nd : vs.Nodup
theorem Step.mem {ts us vs : List Tr} (h : Step ts us vs) {a : Tr} (ha : a ∈ us) : a ∈ vs := by
  obtain ⟨r, rfl⟩ := h.pre
  exact List.mem_append_left _ ha
theorem Step.ix {ts us vs : List Tr} (h : Step ts us vs) {a : Tr} (ha : a ∈ us) : Bk.ix vs a = Bk.ix us a := by
  obtain ⟨r, rfl⟩ := h.pre
  exact ix_pre ha
theorem Step.trans {ts us vs ws : List Tr} (h : Step ts us vs) (k : Step ts vs ws) : Step ts us ws := by
  obtain ⟨r, rfl⟩ := h.pre
  obtain ⟨q, rfl⟩ := k.pre
  exact ⟨⟨r ++ q, List.append_assoc ..⟩, k.ok, k.sub, k.nd⟩
theorem hold_step {ts us : List Tr} {x : Tr} (hU : Ok us) (hs : ∀ u ∈ us, u ∈ ts) (hn : us.Nodup) (hx : Fit us x) (hm : x ∈ ts) : Step ts us (holdT us x) ∧ x ∈ holdT us x := by
  unfold holdT
  by_cases h : x ∈ us
  · rw [if_pos h]
    exact ⟨⟨⟨[], (List.append_nil _).symm⟩, hU, hs, hn⟩, h⟩
  · rw [if_neg h]
    refine ⟨⟨⟨[x], rfl⟩, hU.app hx, fun u hu => ?_, ?_⟩, List.mem_append_right _ List.mem_cons_self⟩
    · rcases List.mem_append.mp hu with q | q
      · exact hs u q
      · rw [List.mem_singleton] at q; rw [q]; exact hm
    · rw [List.nodup_append]
      exact ⟨hn, by simp, fun a ha b hb => by rw [List.mem_singleton] at hb; rw [hb]; intro q; rw [q] at ha; exact h ha⟩
mutual
theorem put_step {ts : List Tr} (hT : Ok ts) : ∀ (us : List Tr) (x : Tr), Ok us → (∀ u ∈ us, u ∈ ts) → us.Nodup → x ∈ ts → Step ts us (putT us x) ∧ x ∈ putT us x
  | us, .num i, hU, hs, hn, hm => by simp only [putT]; exact hold_step hU hs hn trivial hm
  | us, .name x, hU, hs, hn, hm => by simp only [putT]; exact hold_step hU hs hn (show Az x from hT _ hm) hm
  | us, .any x, hU, hs, hn, hm => (hT _ hm).elim
  | us, .of w as, hU, hs, hn, hm => by
    have hf : Fit ts (.of w as) := hT _ hm
    obtain ⟨k1, k2⟩ := putL_step hT us as hU hs hn hf.2.2
    simp only [putT]
    obtain ⟨k3, k4⟩ := hold_step (ts := ts) (x := .of w as) k1.ok k1.sub k1.nd ⟨hf.1, hf.2.1, k2⟩ hm
    exact ⟨k1.trans k3, k4⟩
theorem putL_step {ts : List Tr} (hT : Ok ts) : ∀ (us : List Tr) (as : List Tr), Ok us → (∀ u ∈ us, u ∈ ts) → us.Nodup → (∀ a ∈ as, a ∈ ts) → Step ts us (putL us as) ∧ ∀ a ∈ as, a ∈ putL us as
  | us, [], hU, hs, hn, _ => by simp only [putL]; exact ⟨⟨⟨[], (List.append_nil _).symm⟩, hU, hs, hn⟩, fun a ha => by cases ha⟩
  | us, a :: r, hU, hs, hn, hm => by
    obtain ⟨k1, k2⟩ := put_step hT us a hU hs hn (hm a List.mem_cons_self)
    obtain ⟨k3, k4⟩ := putL_step hT (putT us a) r k1.ok k1.sub k1.nd fun z hz => hm z (List.mem_cons_of_mem _ hz)
    simp only [putL]
    refine ⟨k1.trans k3, fun z hz => ?_⟩
    rcases List.mem_cons.mp hz with rfl | hz
    · exact k3.mem k2
    · exact k4 z hz
end
theorem nd_len {pw acc : List Tr} (h : acc.Nodup) (hs : ∀ y ∈ acc, y ∈ pw) : acc.length ≤ pw.length := by
  induction acc generalizing pw with
  | nil => exact Nat.zero_le _
  | cons x r ih =>
    have hx := hs x List.mem_cons_self
    have := ih (pw := pw.erase x) (List.nodup_cons.mp h).2 fun y hy => by
      have hne : y ≠ x := fun q => (List.nodup_cons.mp h).1 (by rw [← q]; exact hy)
      exact (List.mem_erase_of_ne hne).mpr (hs y (List.mem_cons_of_mem _ hy))
    rw [List.length_erase_of_mem hx] at this
    have hp : 0 < pw.length := List.length_pos_of_mem hx
    rw [List.length_cons]
    omega
theorem enc_of {us as : List Tr} {w : Str} : (enc us (.of w as)).pv = .tup [.str "of", .str w, .tup (as.map fun a => .int (ix us a))] := by
  simp only [enc, Tm.Tm.pv, List.map_map]
  rfl
/-- the loop over the arms -/
theorem loop_put {ts : List Tr} (hT : Ok ts) (hl : ts.length ≤ 300) {n p f : Nat} {s : Store} {o1 o2 : Option PV}
    (ih : ∀ (us : List Tr) (x : Tr) (s : Store), BankAt s n p us → Ok us → (∀ u ∈ us, u ∈ ts) → us.Nodup → x ∈ ts → x.depth ≤ f → F_Bank_put_part f [.ref n, x.pv, .non] s = .ok (.int (ix (putT us x) x)) (s.set p (.lst (rows (putT us x))))) :
    ∀ (as us : List Tr) (acc : List PV) (v : Option PV), BankAt s n p us → Ok us → (∀ u ∈ us, u ∈ ts) → us.Nodup → (∀ a ∈ as, a ∈ ts) → depthL as ≤ f → acc.length + as.length ≤ 1000 →
      ∃ v', forL [] (nameG 4) (b_Bank_put_part_s1 (F_Bank_put_part f)) (as.map Tr.pv) [some (.ref n), o1, some .non, some (.ref s.length), v] (s ++ [.lst acc]) =
        .nx [some (.ref n), o1, some .non, some (.ref s.length), v'] (s.set p (.lst (rows (putL us as))) ++ [.lst (acc ++ as.map fun a => .int (ix (putL us as) a))])
  | [], us, acc, v, hB, _, _, _, _, _, _ => by
    refine ⟨v, ?_⟩
    rw [List.map_nil]
    unfold forL
    rw [if_pos (gd_nil _)]
    simp only [putL, set_same hB.2, List.map_nil, List.append_nil]
  | a :: r, us, acc, v, hB, hU, hs, hn, hm, hd, hc => by
    obtain ⟨k1, k2⟩ := put_step hT us a hU hs hn (hm a List.mem_cons_self)
    obtain ⟨k3, k4⟩ := putL_step hT (putT us a) r k1.ok k1.sub k1.nd fun z hz => hm z (List.mem_cons_of_mem _ hz)
    rw [depthL] at hd
    have h1 := ih us a (s ++ [.lst acc]) hB.app hU hs hn (hm a List.mem_cons_self) (by omega)
    have st1 : (s ++ [PO.lst acc]).set p (.lst (rows (putT us a))) = s.set p (.lst (rows (putT us a))) ++ [.lst acc] := List.set_append_left _ _ hB.lt
    rw [st1] at h1
    have hB2 : BankAt (s.set p (.lst (rows (putT us a)))) n p (putT us a) := hB.set
    rw [List.length_cons] at hc
    obtain ⟨v', h2⟩ := loop_put hT hl (n := n) (p := p) (f := f) (s := s.set p (.lst (rows (putT us a)))) (o1 := o1) (o2 := o2) ih r (putT us a) (acc ++ [.int (ix (putT us a) a)]) (some a.pv) hB2 k1.ok k1.sub k1.nd (fun z hz => hm z (List.mem_cons_of_mem _ hz)) (by omega) (by rw [List.length_append, List.length_singleton]; omega)
    rw [List.length_set, List.set_set] at h2
    refine ⟨v', ?_⟩
    have n1 : List.lookup ("put_part" : Str) [(("room" : Str), PV.int 400), ("terms", .ref p)] = none := fl3 "put_part" (by decide +kernel) (by decide +kernel)
    have g1 : ∀ g, (s ++ g)[n]? = some (.ins "Bank" [("room", .int 400), ("terms", .ref p)]) := fun g => getOld hB.1
    have g2 : ∀ a b : PO, (s.set p a ++ [b])[s.length]? = some b := fun a b => by
      have := getS0 (st := s.set p a) (g := [b])
      rw [List.length_set] at this
      rw [this]; rfl
    have g3 : ∀ a b c : PO, (s.set p a ++ [b]).set s.length c = s.set p a ++ [c] := fun a b c => by
      have := setS0_app (st := s.set p a) (g := [b]) (o := c)
      rw [List.length_set] at this
      rw [this]; rfl
    have q : acc.length < 16777216 := by omega
    rw [List.map_cons]
    unfold forL
    rw [if_pos (gd_nil _)]
    have bd : b_Bank_put_part_s1 (F_Bank_put_part f) [some (.ref n), o1, some .non, some (.ref s.length), some a.pv] (s ++ [.lst acc]) = .nx [some (.ref n), o1, some .non, some (.ref s.length), some a.pv] (s.set p (.lst (rows (putT us a))) ++ [.lst (acc ++ [.int (ix (putT us a) a)])]) := by
      have tk : tyOk "list" (.ref s.length) (s ++ [.lst acc]) = true := by simp only [tyOk, getS0]; rfl
      simp only [b_Bank_put_part_s1, methF, seqS, ifS, setS, augS, dropS, retS, retN, nxS, bkS, ctS, asgS, subS, R.toS, R.bind, R.of, opF, unF, varF, cstF, chF, isB, asB, andT, orT, notT, andF, orF, notF, ifF, nilA, consA, tupF, lstF, cbF, callF, bmF', truT, truV, nameG, nilG, consG, tupG, List.set_cons_zero, List.set_cons_succ, List.getElem?_cons_zero, List.getElem?_cons_succ, Option.bind_some, Option.bind_none, Option.map_some, Option.map_none, List.length_cons, List.length_nil, List.cons_append, List.nil_append, List.append_nil, if_true, if_false, ite_true, ite_false, Bool.false_eq_true, reduceIte, reduceCtorEq, List.map_cons, List.map_nil, Nat.sub_self, List.replicate_succ, List.replicate_zero, Nat.reduceSub, Nat.reduceAdd, Nat.reduceLT, Nat.reduceLeDiff, Nat.reduceEqDiff, Nat.reduceMul, Nat.reducePow, Int.reduceLT, Int.reduceLE, Int.reduceAdd, Int.reduceMul, Int.reduceSub, Int.reduceNeg, Int.reduceEq, Int.reducePow, Int.reduceMod, Int.reduceDiv, Int.reduceToNat, decide_true, decide_false, and_true, true_and, and_self, Option.some.injEq, g1, n1, h1, tk, appendV, g2, g3, sizeLine_eq, q]
    rw [show nameG 4 a.pv [some (.ref n), o1, some .non, some (.ref s.length), v] = some [some (.ref n), o1, some .non, some (.ref s.length), some a.pv] from rfl]
    simp only
    rw [bd]
    simp only
    rw [h2]
    simp only [putL, List.map_cons]
    rw [k3.ix k2]
    simp
theorem F_put_part {ts : List Tr} (hT : Ok ts) (hl : ts.length ≤ 300) {n p : Nat} : ∀ (f : Nat) (us : List Tr) (x : Tr) (s : Store), BankAt s n p us → Ok us → (∀ u ∈ us, u ∈ ts) → us.Nodup → x ∈ ts → x.depth ≤ f → F_Bank_put_part f [.ref n, x.pv, .non] s = .ok (.int (ix (putT us x) x)) (s.set p (.lst (rows (putT us x)))) := by
  intro f
  induction f with
  | zero => intro us x s _ _ _ _ _ h; have := depth_pos x; omega
  | succ f ih =>
    intro us x s hB hU hs hn hm hd
    have n2 : List.lookup ("hold" : Str) [(("room" : Str), PV.int 400), ("terms", .ref p)] = none := fl3 "hold" (by decide +kernel) (by decide +kernel)
    have ul := nd_len hn hs
    unfold F_Bank_put_part
    cases x with
    | any x => exact (hT _ hm).elim
    | num i =>
      have h := F_hold (x := .num i) hB hU trivial (by omega)
      refine run_set (g := []) ?_ rfl hB.lt (rows_ok _ _)
      rw [List.append_nil]
      simp only [enc, Tm.Tm.pv] at h
      simp only [b_Bank_put_part, methF, Tr.pv, seqS, ifS, setS, augS, dropS, retS, retN, nxS, bkS, ctS, asgS, subS, R.toS, R.bind, R.of, opF, unF, varF, cstF, chF, isB, asB, andT, orT, notT, andF, orF, notF, ifF, nilA, consA, tupF, lstF, cbF, callF, bmF', truT, truV, nameG, nilG, consG, tupG, List.set_cons_zero, List.set_cons_succ, List.getElem?_cons_zero, List.getElem?_cons_succ, Option.bind_some, Option.bind_none, Option.map_some, Option.map_none, List.length_cons, List.length_nil, List.cons_append, List.nil_append, List.append_nil, if_true, if_false, ite_true, ite_false, Bool.false_eq_true, reduceIte, reduceCtorEq, List.map_cons, List.map_nil, Nat.sub_self, List.replicate_succ, List.replicate_zero, Nat.reduceSub, Nat.reduceAdd, Nat.reduceLT, Nat.reduceLeDiff, Nat.reduceEqDiff, Nat.reduceMul, Nat.reducePow, Int.reduceLT, Int.reduceLE, Int.reduceAdd, Int.reduceMul, Int.reduceSub, Int.reduceNeg, Int.reduceEq, Int.reducePow, Int.reduceMod, Int.reduceDiv, Int.reduceToNat, decide_true, decide_false, and_true, true_and, and_self, Option.some.injEq, eqV, neV, eqB, scEq, t1, t2, t3, t4, t5, t6, t7, t8, t9, t10, t11, t12, t13, t14, t15, t16, idxV, at0, at1, at2, at3, at4, at5, seqAt, lstAt, lenV, isiV, typV, kb1, kb2, kb3, kb4, kb5, kb6, kb7, kb8, kb9, kb10, kb11, hB.1, n2, Bool.not_false, h, putT]
    | name y =>
      have h := F_hold (x := .name y) hB hU (show Az y from hT _ hm) (by omega)
      refine run_set (g := []) ?_ rfl hB.lt (rows_ok _ _)
      rw [List.append_nil]
      simp only [enc, Tm.Tm.pv] at h
      simp only [b_Bank_put_part, methF, Tr.pv, seqS, ifS, setS, augS, dropS, retS, retN, nxS, bkS, ctS, asgS, subS, R.toS, R.bind, R.of, opF, unF, varF, cstF, chF, isB, asB, andT, orT, notT, andF, orF, notF, ifF, nilA, consA, tupF, lstF, cbF, callF, bmF', truT, truV, nameG, nilG, consG, tupG, List.set_cons_zero, List.set_cons_succ, List.getElem?_cons_zero, List.getElem?_cons_succ, Option.bind_some, Option.bind_none, Option.map_some, Option.map_none, List.length_cons, List.length_nil, List.cons_append, List.nil_append, List.append_nil, if_true, if_false, ite_true, ite_false, Bool.false_eq_true, reduceIte, reduceCtorEq, List.map_cons, List.map_nil, Nat.sub_self, List.replicate_succ, List.replicate_zero, Nat.reduceSub, Nat.reduceAdd, Nat.reduceLT, Nat.reduceLeDiff, Nat.reduceEqDiff, Nat.reduceMul, Nat.reducePow, Int.reduceLT, Int.reduceLE, Int.reduceAdd, Int.reduceMul, Int.reduceSub, Int.reduceNeg, Int.reduceEq, Int.reducePow, Int.reduceMod, Int.reduceDiv, Int.reduceToNat, decide_true, decide_false, and_true, true_and, and_self, Option.some.injEq, eqV, neV, eqB, scEq, t1, t2, t3, t4, t5, t6, t7, t8, t9, t10, t11, t12, t13, t14, t15, t16, idxV, at0, at1, at2, at3, at4, at5, seqAt, lstAt, lenV, isiV, typV, kb1, kb2, kb3, kb4, kb5, kb6, kb7, kb8, kb9, kb10, kb11, hB.1, n2, Bool.not_false, h, putT]
    | of w as =>
      have hf : Fit ts (.of w as) := hT _ hm
      simp only [Tr.depth] at hd
      obtain ⟨k1, k2⟩ := putL_step hT us as hU hs hn hf.2.2
      have l1 := nd_len k1.nd k1.sub
      obtain ⟨v', h1⟩ := loop_put hT hl (s := s) (o1 := some (Tr.of w as).pv) (o2 := none) ih as us [] none hB hU hs hn hf.2.2 (by omega) (by have := hf.2.1; simp only [List.length_nil]; omega)
      have hB1 : BankAt (s.set p (.lst (rows (putL us as))) ++ [.lst (as.map fun a => .int (ix (putL us as) a))]) n p (putL us as) := hB.set.app
      have h2 := F_hold (x := .of w as) hB1 k1.ok ⟨hf.1, hf.2.1, k2⟩ (by omega)
      have st2 : (s.set p (.lst (rows (putL us as))) ++ [PO.lst (as.map fun a => .int (ix (putL us as) a))]).set p (.lst (rows (holdT (putL us as) (.of w as)))) = s.set p (.lst (rows (holdT (putL us as) (.of w as)))) ++ [.lst (as.map fun a => .int (ix (putL us as) a))] := by
        rw [List.set_append_left _ _ (by rw [List.length_set]; exact hB.lt), List.set_set]
      rw [st2, enc_of] at h2
      refine run_set (g := [.lst (as.map fun a => .int (ix (putL us as) a))]) ?_ rfl hB.lt (rows_ok _ _)
      simp only [putT]
      have g2 : (s.set p (.lst (rows (putL us as))) ++ [PO.lst (as.map fun a => .int (ix (putL us as) a))])[s.length]? = some (.lst (as.map fun a => .int (ix (putL us as) a))) := by
        have := getS0 (st := s.set p (.lst (rows (putL us as)))) (g := [PO.lst (as.map fun a => .int (ix (putL us as) a))])
        rw [List.length_set] at this
        rw [this]; rfl
      rw [List.nil_append] at h1
      simp only [Tr.pv, pvs_map] at h1
      simp only [b_Bank_put_part, methF, Tr.pv, pvs_map, seqS, ifS, setS, augS, dropS, retS, retN, nxS, bkS, ctS, asgS, subS, R.toS, R.bind, R.of, opF, unF, varF, cstF, chF, isB, asB, andT, orT, notT, andF, orF, notF, ifF, nilA, consA, tupF, lstF, cbF, callF, bmF', truT, truV, nameG, nilG, consG, tupG, List.set_cons_zero, List.set_cons_succ, List.getElem?_cons_zero, List.getElem?_cons_succ, Option.bind_some, Option.bind_none, Option.map_some, Option.map_none, List.length_cons, List.length_nil, List.cons_append, List.nil_append, List.append_nil, if_true, if_false, ite_true, ite_false, Bool.false_eq_true, reduceIte, reduceCtorEq, List.map_cons, List.map_nil, Nat.sub_self, List.replicate_succ, List.replicate_zero, Nat.reduceSub, Nat.reduceAdd, Nat.reduceLT, Nat.reduceLeDiff, Nat.reduceEqDiff, Nat.reduceMul, Nat.reducePow, Int.reduceLT, Int.reduceLE, Int.reduceAdd, Int.reduceMul, Int.reduceSub, Int.reduceNeg, Int.reduceEq, Int.reducePow, Int.reduceMod, Int.reduceDiv, Int.reduceToNat, decide_true, decide_false, and_true, true_and, and_self, Option.some.injEq, eqV, neV, eqB, scEq, t1, t2, t3, t4, t5, t6, t7, t8, t9, t10, t11, t12, t13, t14, t15, t16, idxV, at0, at1, at2, at3, at4, at5, seqAt, lstAt, lenV, isiV, typV, kb1, kb2, kb3, kb4, kb5, kb6, kb7, kb8, kb9, kb10, kb11, sizeLine_eq, Bool.not_true, forS, seqI, gdOf, h1, hB1.1, n2, tupleV, g2, h2]
theorem loop_find' {us : List Tr} {n p f : Nat} {o1 : Option PV} {P : Tr → Prop} {s : Store} (hB : BankAt s n p us)
    (ih : ∀ (x : Tr) (s : Store), BankAt s n p us → P x → x.depth ≤ f → F_Bank_find f [.ref n, x.pv] s = .ok (pos us x) s) :
    ∀ (as : List Tr) (acc : List PV) (v3 v4 : Option PV), (∀ a ∈ as, P a) → depthL as ≤ f → acc.length + as.length ≤ 1000 →
      ((∀ a ∈ as, a ∈ us) → ∃ v3' v4', forL [] (nameG 3) (b_Bank_find_s1 (F_Bank_find f)) (as.map Tr.pv) [some (.ref n), o1, some (.ref s.length), v3, v4] (s ++ [.lst acc]) = .nx [some (.ref n), o1, some (.ref s.length), v3', v4'] (s ++ [.lst (acc ++ as.map fun a => .int (ix us a))])) ∧
      (¬ (∀ a ∈ as, a ∈ us) → ∃ l, forL [] (nameG 3) (b_Bank_find_s1 (F_Bank_find f)) (as.map Tr.pv) [some (.ref n), o1, some (.ref s.length), v3, v4] (s ++ [.lst acc]) = .rt .non (s ++ [.lst l]))
  | [], acc, v3, v4, _, _, _ => by
    refine ⟨fun _ => ⟨v3, v4, ?_⟩, fun h => absurd (fun a ha => by cases ha) h⟩
    rw [List.map_nil]
    unfold forL
    rw [if_pos (gd_nil _)]
    simp
  | a :: r, acc, v3, v4, hP, hd, hc => by
    rw [depthL] at hd
    rw [List.length_cons] at hc
    have h1 := ih a (s ++ [.lst acc]) hB.app (hP a List.mem_cons_self) (by omega)
    have n1 : List.lookup ("find" : Str) [(("room" : Str), PV.int 400), ("terms", .ref p)] = none := fl3 "find" (by decide +kernel) (by decide +kernel)
    have g1 : ∀ g, (s ++ g)[n]? = some (.ins "Bank" [("room", .int 400), ("terms", .ref p)]) := fun g => getOld hB.1
    have q : acc.length < 16777216 := by omega
    have e0 : forL [] (nameG 3) (b_Bank_find_s1 (F_Bank_find f)) ((a :: r).map Tr.pv) [some (.ref n), o1, some (.ref s.length), v3, v4] (s ++ [.lst acc]) = match b_Bank_find_s1 (F_Bank_find f) [some (.ref n), o1, some (.ref s.length), some a.pv, v4] (s ++ [.lst acc]) with
        | .nx e2 s2 => forL [] (nameG 3) (b_Bank_find_s1 (F_Bank_find f)) (r.map Tr.pv) e2 s2
        | .ct e2 s2 => forL [] (nameG 3) (b_Bank_find_s1 (F_Bank_find f)) (r.map Tr.pv) e2 s2
        | .bk e2 s2 => .nx e2 s2
        | x => x := by
      rw [List.map_cons]
      conv => lhs; unfold forL
      rw [if_pos (gd_nil _)]
      rfl
    rw [e0]
    by_cases ha : a ∈ us
    · have pe : pos us a = .int (ix us a) := by unfold pos; rw [if_pos ha]
      rw [pe] at h1
      have tk : tyOk "list" (.ref s.length) (s ++ [.lst acc]) = true := by simp only [tyOk, getS0]; rfl
      have bd : b_Bank_find_s1 (F_Bank_find f) [some (.ref n), o1, some (.ref s.length), some a.pv, v4] (s ++ [.lst acc]) = .nx [some (.ref n), o1, some (.ref s.length), some a.pv, some (.int (ix us a))] (s ++ [.lst (acc ++ [.int (ix us a)])]) := by
        simp only [b_Bank_find_s1, methF, seqS, ifS, setS, augS, dropS, retS, retN, nxS, bkS, ctS, asgS, subS, R.toS, R.bind, R.of, opF, unF, varF, cstF, chF, isB, asB, andT, orT, notT, andF, orF, notF, ifF, nilA, consA, tupF, lstF, cbF, callF, bmF', truT, truV, nameG, nilG, consG, tupG, List.set_cons_zero, List.set_cons_succ, List.getElem?_cons_zero, List.getElem?_cons_succ, Option.bind_some, Option.bind_none, Option.map_some, Option.map_none, List.length_cons, List.length_nil, List.cons_append, List.nil_append, List.append_nil, if_true, if_false, ite_true, ite_false, Bool.false_eq_true, reduceIte, reduceCtorEq, List.map_cons, List.map_nil, Nat.sub_self, List.replicate_succ, List.replicate_zero, Nat.reduceSub, Nat.reduceAdd, Nat.reduceLT, Nat.reduceLeDiff, Nat.reduceEqDiff, Nat.reduceMul, Nat.reducePow, Int.reduceLT, Int.reduceLE, Int.reduceAdd, Int.reduceMul, Int.reduceSub, Int.reduceNeg, Int.reduceEq, Int.reducePow, Int.reduceMod, Int.reduceDiv, Int.reduceToNat, decide_true, decide_false, and_true, true_and, and_self, Option.some.injEq, addV, iaddV, subV, mulV, fdivV, modV, powV, negV, cmpV, isNonV, notNonV, g1, n1, h1, tk, appendV, getS0, setS0_app, sizeLine_eq, q]
      rw [bd]
      obtain ⟨k1, k2⟩ := loop_find' (o1 := o1) hB ih r (acc ++ [.int (ix us a)]) (some a.pv) (some (.int (ix us a))) (fun z hz => hP z (List.mem_cons_of_mem _ hz)) (by omega) (by rw [List.length_append, List.length_singleton]; omega)
      refine ⟨fun h => ?_, fun h => ?_⟩
      · obtain ⟨x3, x4, k⟩ := k1 fun z hz => h z (List.mem_cons_of_mem _ hz)
        refine ⟨x3, x4, ?_⟩
        simp only
        rw [k]
        simp
      · exact k2 fun z => h fun y hy => by
          rcases List.mem_cons.mp hy with rfl | hy
          · exact ha
          · exact z y hy
    · have pe : pos us a = .non := by unfold pos; rw [if_neg ha]
      rw [pe] at h1
      have bd : b_Bank_find_s1 (F_Bank_find f) [some (.ref n), o1, some (.ref s.length), some a.pv, v4] (s ++ [.lst acc]) = .rt .non (s ++ [.lst acc]) := by
        simp only [b_Bank_find_s1, methF, seqS, ifS, setS, augS, dropS, retS, retN, nxS, bkS, ctS, asgS, subS, R.toS, R.bind, R.of, opF, unF, varF, cstF, chF, isB, asB, andT, orT, notT, andF, orF, notF, ifF, nilA, consA, tupF, lstF, cbF, callF, bmF', truT, truV, nameG, nilG, consG, tupG, List.set_cons_zero, List.set_cons_succ, List.getElem?_cons_zero, List.getElem?_cons_succ, Option.bind_some, Option.bind_none, Option.map_some, Option.map_none, List.length_cons, List.length_nil, List.cons_append, List.nil_append, List.append_nil, if_true, if_false, ite_true, ite_false, Bool.false_eq_true, reduceIte, reduceCtorEq, List.map_cons, List.map_nil, Nat.sub_self, List.replicate_succ, List.replicate_zero, Nat.reduceSub, Nat.reduceAdd, Nat.reduceLT, Nat.reduceLeDiff, Nat.reduceEqDiff, Nat.reduceMul, Nat.reducePow, Int.reduceLT, Int.reduceLE, Int.reduceAdd, Int.reduceMul, Int.reduceSub, Int.reduceNeg, Int.reduceEq, Int.reducePow, Int.reduceMod, Int.reduceDiv, Int.reduceToNat, decide_true, decide_false, and_true, true_and, and_self, Option.some.injEq, addV, iaddV, subV, mulV, fdivV, modV, powV, negV, cmpV, isNonV, notNonV, g1, n1, h1]
      rw [bd]
      exact ⟨fun h => absurd (h a List.mem_cons_self) ha, fun _ => ⟨acc, rfl⟩⟩
theorem F_find {ts us : List Tr} (hT : Ok ts) (hU : Ok us) {n p : Nat} : ∀ (f : Nat) (x : Tr) (s : Store), BankAt s n p us → x ∈ ts → x.depth ≤ f → F_Bank_find f [.ref n, x.pv] s = .ok (pos us x) s := by
  intro f
  induction f with
  | zero => intro x s _ _ h; have := depth_pos x; omega
  | succ f ih =>
    intro x s hB hm hd
    have n1 : List.lookup ("place" : Str) [(("room" : Str), PV.int 400), ("terms", .ref p)] = none := fl3 "place" (by decide +kernel) (by decide +kernel)
    unfold F_Bank_find
    cases x with
    | any x => exact (hT _ hm).elim
    | num i =>
      have h := F_place (x := .num i) hB hU trivial
      refine run_rt0 ?_ (pos_pure _ _)
      simp only [enc, Tm.Tm.pv] at h
      simp only [b_Bank_find, methF, Tr.pv, seqS, ifS, setS, augS, dropS, retS, retN, nxS, bkS, ctS, asgS, subS, R.toS, R.bind, R.of, opF, unF, varF, cstF, chF, isB, asB, andT, orT, notT, andF, orF, notF, ifF, nilA, consA, tupF, lstF, cbF, callF, bmF', truT, truV, nameG, nilG, consG, tupG, List.set_cons_zero, List.set_cons_succ, List.getElem?_cons_zero, List.getElem?_cons_succ, Option.bind_some, Option.bind_none, Option.map_some, Option.map_none, List.length_cons, List.length_nil, List.cons_append, List.nil_append, List.append_nil, if_true, if_false, ite_true, ite_false, Bool.false_eq_true, reduceIte, reduceCtorEq, List.map_cons, List.map_nil, Nat.sub_self, List.replicate_succ, List.replicate_zero, Nat.reduceSub, Nat.reduceAdd, Nat.reduceLT, Nat.reduceLeDiff, Nat.reduceEqDiff, Nat.reduceMul, Nat.reducePow, Int.reduceLT, Int.reduceLE, Int.reduceAdd, Int.reduceMul, Int.reduceSub, Int.reduceNeg, Int.reduceEq, Int.reducePow, Int.reduceMod, Int.reduceDiv, Int.reduceToNat, decide_true, decide_false, and_true, true_and, and_self, Option.some.injEq, eqV, neV, eqB, scEq, t1, t2, t3, t4, t5, t6, t7, t8, t9, t10, t11, t12, t13, t14, t15, t16, idxV, at0, at1, at2, at3, at4, at5, seqAt, lstAt, lenV, isiV, typV, kb1, kb2, kb3, kb4, kb5, kb6, kb7, kb8, kb9, kb10, kb11, hB.1, n1, Bool.not_false, h]
    | name y =>
      have h := F_place (x := .name y) hB hU (show Az y from hT _ hm)
      refine run_rt0 ?_ (pos_pure _ _)
      simp only [enc, Tm.Tm.pv] at h
      simp only [b_Bank_find, methF, Tr.pv, seqS, ifS, setS, augS, dropS, retS, retN, nxS, bkS, ctS, asgS, subS, R.toS, R.bind, R.of, opF, unF, varF, cstF, chF, isB, asB, andT, orT, notT, andF, orF, notF, ifF, nilA, consA, tupF, lstF, cbF, callF, bmF', truT, truV, nameG, nilG, consG, tupG, List.set_cons_zero, List.set_cons_succ, List.getElem?_cons_zero, List.getElem?_cons_succ, Option.bind_some, Option.bind_none, Option.map_some, Option.map_none, List.length_cons, List.length_nil, List.cons_append, List.nil_append, List.append_nil, if_true, if_false, ite_true, ite_false, Bool.false_eq_true, reduceIte, reduceCtorEq, List.map_cons, List.map_nil, Nat.sub_self, List.replicate_succ, List.replicate_zero, Nat.reduceSub, Nat.reduceAdd, Nat.reduceLT, Nat.reduceLeDiff, Nat.reduceEqDiff, Nat.reduceMul, Nat.reducePow, Int.reduceLT, Int.reduceLE, Int.reduceAdd, Int.reduceMul, Int.reduceSub, Int.reduceNeg, Int.reduceEq, Int.reducePow, Int.reduceMod, Int.reduceDiv, Int.reduceToNat, decide_true, decide_false, and_true, true_and, and_self, Option.some.injEq, eqV, neV, eqB, scEq, t1, t2, t3, t4, t5, t6, t7, t8, t9, t10, t11, t12, t13, t14, t15, t16, idxV, at0, at1, at2, at3, at4, at5, seqAt, lstAt, lenV, isiV, typV, kb1, kb2, kb3, kb4, kb5, kb6, kb7, kb8, kb9, kb10, kb11, hB.1, n1, Bool.not_false, h]
    | of w as =>
      have hf : Fit ts (.of w as) := hT _ hm
      simp only [Tr.depth] at hd
      obtain ⟨k1, k2⟩ := loop_find' (P := fun x => x ∈ ts) (o1 := some (Tr.of w as).pv) hB (fun x s hB hx hd => ih x s hB hx hd) as [] none none hf.2.2 (by omega) (by have := hf.2.1; simp only [List.length_nil]; omega)
      by_cases hall : ∀ a ∈ as, a ∈ us
      · obtain ⟨v3, v4, h1⟩ := k1 hall
        have hB1 : BankAt (s ++ [.lst (as.map fun a => .int (ix us a))]) n p us := hB.app
        have h := F_place (x := .of w as) hB1 hU ⟨hf.1, hf.2.1, hall⟩
        rw [enc_of] at h
        refine run_rt (g := [.lst (as.map fun a => .int (ix us a))]) ?_ (pos_pure _ _)
        rw [List.nil_append] at h1
        simp only [Tr.pv, pvs_map] at h1
        simp only [b_Bank_find, methF, Tr.pv, pvs_map, seqS, ifS, setS, augS, dropS, retS, retN, nxS, bkS, ctS, asgS, subS, R.toS, R.bind, R.of, opF, unF, varF, cstF, chF, isB, asB, andT, orT, notT, andF, orF, notF, ifF, nilA, consA, tupF, lstF, cbF, callF, bmF', truT, truV, nameG, nilG, consG, tupG, List.set_cons_zero, List.set_cons_succ, List.getElem?_cons_zero, List.getElem?_cons_succ, Option.bind_some, Option.bind_none, Option.map_some, Option.map_none, List.length_cons, List.length_nil, List.cons_append, List.nil_append, List.append_nil, if_true, if_false, ite_true, ite_false, Bool.false_eq_true, reduceIte, reduceCtorEq, List.map_cons, List.map_nil, Nat.sub_self, List.replicate_succ, List.replicate_zero, Nat.reduceSub, Nat.reduceAdd, Nat.reduceLT, Nat.reduceLeDiff, Nat.reduceEqDiff, Nat.reduceMul, Nat.reducePow, Int.reduceLT, Int.reduceLE, Int.reduceAdd, Int.reduceMul, Int.reduceSub, Int.reduceNeg, Int.reduceEq, Int.reducePow, Int.reduceMod, Int.reduceDiv, Int.reduceToNat, decide_true, decide_false, and_true, true_and, and_self, Option.some.injEq, eqV, neV, eqB, scEq, t1, t2, t3, t4, t5, t6, t7, t8, t9, t10, t11, t12, t13, t14, t15, t16, idxV, at0, at1, at2, at3, at4, at5, seqAt, lstAt, lenV, isiV, typV, kb1, kb2, kb3, kb4, kb5, kb6, kb7, kb8, kb9, kb10, kb11, sizeLine_eq, Bool.not_true, forS, seqI, gdOf, h1, hB1.1, n1, tupleV, getS0, h]
      · obtain ⟨l, h1⟩ := k2 hall
        have hx : Tr.of w as ∉ us := fun z => hall (show Fit us (.of w as) from hU _ z).2.2
        have pe : pos us (.of w as) = .non := by unfold pos; rw [if_neg hx]
        rw [pe]
        refine run_rt (g := [.lst l]) ?_ rfl
        simp only [Tr.pv, pvs_map] at h1
        simp only [b_Bank_find, methF, Tr.pv, pvs_map, seqS, ifS, setS, augS, dropS, retS, retN, nxS, bkS, ctS, asgS, subS, R.toS, R.bind, R.of, opF, unF, varF, cstF, chF, isB, asB, andT, orT, notT, andF, orF, notF, ifF, nilA, consA, tupF, lstF, cbF, callF, bmF', truT, truV, nameG, nilG, consG, tupG, List.set_cons_zero, List.set_cons_succ, List.getElem?_cons_zero, List.getElem?_cons_succ, Option.bind_some, Option.bind_none, Option.map_some, Option.map_none, List.length_cons, List.length_nil, List.cons_append, List.nil_append, List.append_nil, if_true, if_false, ite_true, ite_false, Bool.false_eq_true, reduceIte, reduceCtorEq, List.map_cons, List.map_nil, Nat.sub_self, List.replicate_succ, List.replicate_zero, Nat.reduceSub, Nat.reduceAdd, Nat.reduceLT, Nat.reduceLeDiff, Nat.reduceEqDiff, Nat.reduceMul, Nat.reducePow, Int.reduceLT, Int.reduceLE, Int.reduceAdd, Int.reduceMul, Int.reduceSub, Int.reduceNeg, Int.reduceEq, Int.reducePow, Int.reduceMod, Int.reduceDiv, Int.reduceToNat, decide_true, decide_false, and_true, true_and, and_self, Option.some.injEq, eqV, neV, eqB, scEq, t1, t2, t3, t4, t5, t6, t7, t8, t9, t10, t11, t12, t13, t14, t15, t16, idxV, at0, at1, at2, at3, at4, at5, seqAt, lstAt, lenV, isiV, typV, kb1, kb2, kb3, kb4, kb5, kb6, kb7, kb8, kb9, kb10, kb11, sizeLine_eq, Bool.not_true, forS, seqI, gdOf, h1]
/-! ### the law's own list -/
theorem any_pos (us : List Tr) : ∀ as : List Tr, ((as.map (pos us)).any fun y => eqP y .non) = decide (¬ ∀ a ∈ as, a ∈ us)
  | [] => by simp
  | a :: r => by
    rw [List.map_cons, List.any_cons, any_pos us r]
    unfold pos
    by_cases h : a ∈ us
    · rw [if_pos h]
      have : eqP (.int (ix us a)) .non = false := rfl
      rw [this, Bool.false_or]
      congr 1
      simp [h]
    · rw [if_neg h]
      have : eqP .non .non = true := rfl
      rw [this, Bool.true_or]
      symm
      rw [decide_eq_true_eq]
      exact fun z => h (z a List.mem_cons_self)
theorem F_lfind {ts us : List Tr} (hT : Ok ts) (hU : Ok us) (hl : us.length ≤ 1000) {r : Nat} : ∀ (f : Nat) (x : Tr) (s : Store), s[r]? = some (.lst (rows us)) → x ∈ ts → x.depth ≤ f → F_L_find f [.ref r, x.pv] s = .ok (pos us x) s := by
  intro f
  induction f with
  | zero => intro x s _ _ h; have := depth_pos x; omega
  | succ f ih =>
    intro x s hB hm hd
    unfold F_L_find
    cases x with
    | any x => exact (hT _ hm).elim
    | num i =>
      have h := F_held (x := .num i) hB hU trivial hl
      refine run_rt0 ?_ (pos_pure _ _)
      simp only [enc, Tm.Tm.pv] at h
      simp only [b_L_find, Tr.pv, seqS, ifS, setS, augS, dropS, retS, retN, nxS, bkS, ctS, asgS, subS, R.toS, R.bind, R.of, opF, unF, varF, cstF, chF, isB, asB, andT, orT, notT, andF, orF, notF, ifF, nilA, consA, tupF, lstF, cbF, callF, bmF', truT, truV, nameG, nilG, consG, tupG, List.set_cons_zero, List.set_cons_succ, List.getElem?_cons_zero, List.getElem?_cons_succ, Option.bind_some, Option.bind_none, Option.map_some, Option.map_none, List.length_cons, List.length_nil, List.cons_append, List.nil_append, List.append_nil, if_true, if_false, ite_true, ite_false, Bool.false_eq_true, reduceIte, reduceCtorEq, List.map_cons, List.map_nil, Nat.sub_self, List.replicate_succ, List.replicate_zero, Nat.reduceSub, Nat.reduceAdd, Nat.reduceLT, Nat.reduceLeDiff, Nat.reduceEqDiff, Nat.reduceMul, Nat.reducePow, Int.reduceLT, Int.reduceLE, Int.reduceAdd, Int.reduceMul, Int.reduceSub, Int.reduceNeg, Int.reduceEq, Int.reducePow, Int.reduceMod, Int.reduceDiv, Int.reduceToNat, decide_true, decide_false, and_true, true_and, and_self, Option.some.injEq, eqV, neV, eqB, scEq, t1, t2, t3, t4, t5, t6, t7, t8, t9, t10, t11, t12, t13, t14, t15, t16, idxV, at0, at1, at2, at3, at4, at5, seqAt, lstAt, lenV, isiV, typV, kb1, kb2, kb3, kb4, kb5, kb6, kb7, kb8, kb9, kb10, kb11, Bool.not_false, h]
    | name y =>
      have h := F_held (x := .name y) hB hU (show Az y from hT _ hm) hl
      refine run_rt0 ?_ (pos_pure _ _)
      simp only [enc, Tm.Tm.pv] at h
      simp only [b_L_find, Tr.pv, seqS, ifS, setS, augS, dropS, retS, retN, nxS, bkS, ctS, asgS, subS, R.toS, R.bind, R.of, opF, unF, varF, cstF, chF, isB, asB, andT, orT, notT, andF, orF, notF, ifF, nilA, consA, tupF, lstF, cbF, callF, bmF', truT, truV, nameG, nilG, consG, tupG, List.set_cons_zero, List.set_cons_succ, List.getElem?_cons_zero, List.getElem?_cons_succ, Option.bind_some, Option.bind_none, Option.map_some, Option.map_none, List.length_cons, List.length_nil, List.cons_append, List.nil_append, List.append_nil, if_true, if_false, ite_true, ite_false, Bool.false_eq_true, reduceIte, reduceCtorEq, List.map_cons, List.map_nil, Nat.sub_self, List.replicate_succ, List.replicate_zero, Nat.reduceSub, Nat.reduceAdd, Nat.reduceLT, Nat.reduceLeDiff, Nat.reduceEqDiff, Nat.reduceMul, Nat.reducePow, Int.reduceLT, Int.reduceLE, Int.reduceAdd, Int.reduceMul, Int.reduceSub, Int.reduceNeg, Int.reduceEq, Int.reducePow, Int.reduceMod, Int.reduceDiv, Int.reduceToNat, decide_true, decide_false, and_true, true_and, and_self, Option.some.injEq, eqV, neV, eqB, scEq, t1, t2, t3, t4, t5, t6, t7, t8, t9, t10, t11, t12, t13, t14, t15, t16, idxV, at0, at1, at2, at3, at4, at5, seqAt, lstAt, lenV, isiV, typV, kb1, kb2, kb3, kb4, kb5, kb6, kb7, kb8, kb9, kb10, kb11, Bool.not_false, h]
    | of w as =>
      have hf : Fit ts (.of w as) := hT _ hm
      simp only [Tr.depth] at hd
      have lc := lcT (i := 0) (k := 3) (fi := opF idxV (varF 1) (cstF (.int 2))) (fe := b_L_find_e1 (F_L_find f)) (e := [some (.ref r), some (Tr.of w as).pv, none, none]) (s := s) as Tr.pv (pos us) (by simp only [Tr.pv, pvs_map, seqS, ifS, setS, augS, dropS, retS, retN, nxS, bkS, ctS, asgS, subS, R.toS, R.bind, R.of, opF, unF, varF, cstF, chF, isB, asB, andT, orT, notT, andF, orF, notF, ifF, nilA, consA, tupF, lstF, cbF, callF, bmF', truT, truV, nameG, nilG, consG, tupG, List.set_cons_zero, List.set_cons_succ, List.getElem?_cons_zero, List.getElem?_cons_succ, Option.bind_some, Option.bind_none, Option.map_some, Option.map_none, List.length_cons, List.length_nil, List.cons_append, List.nil_append, List.append_nil, if_true, if_false, ite_true, ite_false, Bool.false_eq_true, reduceIte, reduceCtorEq, List.map_cons, List.map_nil, Nat.sub_self, List.replicate_succ, List.replicate_zero, Nat.reduceSub, Nat.reduceAdd, Nat.reduceLT, Nat.reduceLeDiff, Nat.reduceEqDiff, Nat.reduceMul, Nat.reducePow, Int.reduceLT, Int.reduceLE, Int.reduceAdd, Int.reduceMul, Int.reduceSub, Int.reduceNeg, Int.reduceEq, Int.reducePow, Int.reduceMod, Int.reduceDiv, Int.reduceToNat, decide_true, decide_false, and_true, true_and, and_self, Option.some.injEq, idxV, at0, at1, at2, at3, at4, at5, seqAt, lstAt, lenV, isiV, typV, kb1, kb2, kb3, kb4, kb5, kb6, kb7, kb8, kb9, kb10, kb11]) (by have := hf.2.1; omega) (fun a ha acc => by
        have := ih a (s ++ [.lst acc]) (getOld hB) (hf.2.2 a ha) (Nat.le_trans (depthL_le ha) (by omega))
        simp only [b_L_find_e1, wipeE, seqS, ifS, setS, augS, dropS, retS, retN, nxS, bkS, ctS, asgS, subS, R.toS, R.bind, R.of, opF, unF, varF, cstF, chF, isB, asB, andT, orT, notT, andF, orF, notF, ifF, nilA, consA, tupF, lstF, cbF, callF, bmF', truT, truV, nameG, nilG, consG, tupG, List.set_cons_zero, List.set_cons_succ, List.getElem?_cons_zero, List.getElem?_cons_succ, Option.bind_some, Option.bind_none, Option.map_some, Option.map_none, List.length_cons, List.length_nil, List.cons_append, List.nil_append, List.append_nil, if_true, if_false, ite_true, ite_false, Bool.false_eq_true, reduceIte, reduceCtorEq, List.map_cons, List.map_nil, Nat.sub_self, List.replicate_succ, List.replicate_zero, Nat.reduceSub, Nat.reduceAdd, Nat.reduceLT, Nat.reduceLeDiff, Nat.reduceEqDiff, Nat.reduceMul, Nat.reducePow, Int.reduceLT, Int.reduceLE, Int.reduceAdd, Int.reduceMul, Int.reduceSub, Int.reduceNeg, Int.reduceEq, Int.reducePow, Int.reduceMod, Int.reduceDiv, Int.reduceToNat, decide_true, decide_false, and_true, true_and, and_self, Option.some.injEq, this])
      simp only [Tr.pv, pvs_map] at lc
      have fl : (as.map (pos us)).all flatP = true := by
        rw [List.all_map, List.all_eq_true]
        intro a _
        simp only [Function.comp, pos]
        split <;> rfl
      have hin : inV .non (.ref s.length) (s ++ [.lst (as.map (pos us))]) = some (.bl (decide (¬ ∀ a ∈ as, a ∈ us)), s ++ [.lst (as.map (pos us))]) := by
        have f1 : flatP .non = true := rfl
        simp only [inV, inB, seqAt, lstAt, getS0, List.getElem?_cons_zero, f1, fl, and_self, if_true, any_pos, Option.map_some]
      by_cases hall : ∀ a ∈ as, a ∈ us
      · rw [decide_eq_false fun q => q hall] at hin
        have ps : as.map (pos us) = as.map fun a => .int (ix us a) := List.map_congr_left fun a ha => by unfold pos; rw [if_pos (hall a ha)]
        have h := F_held (x := .of w as) (s := s ++ [.lst (as.map (pos us))]) (getOld hB) hU ⟨hf.1, hf.2.1, hall⟩ hl
        rw [enc_of] at h
        refine run_rt (g := [.lst (as.map (pos us))]) ?_ (pos_pure _ _)
        rw [ps] at lc hin h ⊢
        simp only [b_L_find, Tr.pv, pvs_map, seqS, ifS, setS, augS, dropS, retS, retN, nxS, bkS, ctS, asgS, subS, R.toS, R.bind, R.of, opF, unF, varF, cstF, chF, isB, asB, andT, orT, notT, andF, orF, notF, ifF, nilA, consA, tupF, lstF, cbF, callF, bmF', truT, truV, nameG, nilG, consG, tupG, List.set_cons_zero, List.set_cons_succ, List.getElem?_cons_zero, List.getElem?_cons_succ, Option.bind_some, Option.bind_none, Option.map_some, Option.map_none, List.length_cons, List.length_nil, List.cons_append, List.nil_append, List.append_nil, if_true, if_false, ite_true, ite_false, Bool.false_eq_true, reduceIte, reduceCtorEq, List.map_cons, List.map_nil, Nat.sub_self, List.replicate_succ, List.replicate_zero, Nat.reduceSub, Nat.reduceAdd, Nat.reduceLT, Nat.reduceLeDiff, Nat.reduceEqDiff, Nat.reduceMul, Nat.reducePow, Int.reduceLT, Int.reduceLE, Int.reduceAdd, Int.reduceMul, Int.reduceSub, Int.reduceNeg, Int.reduceEq, Int.reducePow, Int.reduceMod, Int.reduceDiv, Int.reduceToNat, decide_true, decide_false, and_true, true_and, and_self, Option.some.injEq, eqV, neV, eqB, scEq, t1, t2, t3, t4, t5, t6, t7, t8, t9, t10, t11, t12, t13, t14, t15, t16, idxV, at0, at1, at2, at3, at4, at5, seqAt, lstAt, lenV, isiV, typV, kb1, kb2, kb3, kb4, kb5, kb6, kb7, kb8, kb9, kb10, kb11, sizeLine_eq, Bool.not_true, lc, hin, tupleV, getS0, h]
      · rw [decide_eq_true hall] at hin
        have hx : Tr.of w as ∉ us := fun z => hall (show Fit us (.of w as) from hU _ z).2.2
        have pe : pos us (.of w as) = .non := by unfold pos; rw [if_neg hx]
        rw [pe]
        refine run_rt (g := [.lst (as.map (pos us))]) ?_ rfl
        simp only [b_L_find, Tr.pv, pvs_map, seqS, ifS, setS, augS, dropS, retS, retN, nxS, bkS, ctS, asgS, subS, R.toS, R.bind, R.of, opF, unF, varF, cstF, chF, isB, asB, andT, orT, notT, andF, orF, notF, ifF, nilA, consA, tupF, lstF, cbF, callF, bmF', truT, truV, nameG, nilG, consG, tupG, List.set_cons_zero, List.set_cons_succ, List.getElem?_cons_zero, List.getElem?_cons_succ, Option.bind_some, Option.bind_none, Option.map_some, Option.map_none, List.length_cons, List.length_nil, List.cons_append, List.nil_append, List.append_nil, if_true, if_false, ite_true, ite_false, Bool.false_eq_true, reduceIte, reduceCtorEq, List.map_cons, List.map_nil, Nat.sub_self, List.replicate_succ, List.replicate_zero, Nat.reduceSub, Nat.reduceAdd, Nat.reduceLT, Nat.reduceLeDiff, Nat.reduceEqDiff, Nat.reduceMul, Nat.reducePow, Int.reduceLT, Int.reduceLE, Int.reduceAdd, Int.reduceMul, Int.reduceSub, Int.reduceNeg, Int.reduceEq, Int.reducePow, Int.reduceMod, Int.reduceDiv, Int.reduceToNat, decide_true, decide_false, and_true, true_and, and_self, Option.some.injEq, eqV, neV, eqB, scEq, t1, t2, t3, t4, t5, t6, t7, t8, t9, t10, t11, t12, t13, t14, t15, t16, idxV, at0, at1, at2, at3, at4, at5, seqAt, lstAt, lenV, isiV, typV, kb1, kb2, kb3, kb4, kb5, kb6, kb7, kb8, kb9, kb10, kb11, sizeLine_eq, Bool.not_true, lc, hin]
/-- the comprehension that puts the arms -/
theorem lc_put {ts : List Tr} (hT : Ok ts) {r f : Nat} {e0 : Env} {o1 : Option PV} (h0 : e0 = [some (.ref r), o1, none])
    (ih : ∀ (us : List Tr) (x : Tr) (s : Store), s[r]? = some (.lst (rows us)) → Ok us → (∀ u ∈ us, u ∈ ts) → us.Nodup → x ∈ ts → x.depth ≤ f → F_L_put f [.ref r, x.pv] s = .ok (.int (ix (putT us x) x)) (s.set r (.lst (rows (putT us x))))) :
    ∀ (as us : List Tr) (acc : List PV) (s : Store), s[r]? = some (.lst (rows us)) → Ok us → (∀ u ∈ us, u ∈ ts) → us.Nodup → (∀ a ∈ as, a ∈ ts) → depthL as ≤ f → acc.length + as.length ≤ 1000 →
      lcL [] (nameG 2) yesT (b_L_put_e1 (F_L_put f)) s.length e0 (as.map Tr.pv) (s ++ [.lst acc]) = some (.ref s.length, s.set r (.lst (rows (putL us as))) ++ [.lst (acc ++ as.map fun a => .int (ix (putL us as) a))])
  | [], us, acc, s, hB, _, _, _, _, _, _ => by
    rw [List.map_nil]
    unfold lcL
    rw [if_pos (gd_nil _)]
    simp only [putL, set_same hB, List.map_nil, List.append_nil]
  | a :: q, us, acc, s, hB, hU, hs, hn, hm, hd, hc => by
    have rl : r < s.length := (List.getElem?_eq_some_iff.mp hB).1
    obtain ⟨k1, k2⟩ := put_step hT us a hU hs hn (hm a List.mem_cons_self)
    obtain ⟨k3, k4⟩ := putL_step hT (putT us a) q k1.ok k1.sub k1.nd fun z hz => hm z (List.mem_cons_of_mem _ hz)
    rw [depthL] at hd
    rw [List.length_cons] at hc
    have h1 := ih us a (s ++ [.lst acc]) (getOld hB) hU hs hn (hm a List.mem_cons_self) (by omega)
    have st1 : (s ++ [PO.lst acc]).set r (.lst (rows (putT us a))) = s.set r (.lst (rows (putT us a))) ++ [.lst acc] := List.set_append_left _ _ rl
    rw [st1] at h1
    have g2 : ∀ a b : PO, (s.set r a ++ [b])[s.length]? = some b := fun a b => by
      have := getS0 (st := s.set r a) (g := [b])
      rw [List.length_set] at this
      rw [this]; rfl
    have g3 : ∀ a b c : PO, (s.set r a ++ [b]).set s.length c = s.set r a ++ [c] := fun a b c => by
      have := setS0_app (st := s.set r a) (g := [b]) (o := c)
      rw [List.length_set] at this
      rw [this]; rfl
    have h2 := lc_put hT h0 ih q (putT us a) (acc ++ [.int (ix (putT us a) a)]) (s.set r (.lst (rows (putT us a)))) (List.getElem?_set_self rl) k1.ok k1.sub k1.nd (fun z hz => hm z (List.mem_cons_of_mem _ hz)) (by omega) (by rw [List.length_append, List.length_singleton]; omega)
    rw [List.length_set, List.set_set] at h2
    have fe : b_L_put_e1 (F_L_put f) [some (.ref r), o1, some a.pv] (s ++ [.lst acc]) = .ok (.int (ix (putT us a) a)) (s.set r (.lst (rows (putT us a))) ++ [.lst acc]) := by
      simp only [b_L_put_e1, seqS, ifS, setS, augS, dropS, retS, retN, nxS, bkS, ctS, asgS, subS, R.toS, R.bind, R.of, opF, unF, varF, cstF, chF, isB, asB, andT, orT, notT, andF, orF, notF, ifF, nilA, consA, tupF, lstF, cbF, callF, bmF', truT, truV, nameG, nilG, consG, tupG, List.set_cons_zero, List.set_cons_succ, List.getElem?_cons_zero, List.getElem?_cons_succ, Option.bind_some, Option.bind_none, Option.map_some, Option.map_none, List.length_cons, List.length_nil, List.cons_append, List.nil_append, List.append_nil, if_true, if_false, ite_true, ite_false, Bool.false_eq_true, reduceIte, reduceCtorEq, List.map_cons, List.map_nil, Nat.sub_self, List.replicate_succ, List.replicate_zero, Nat.reduceSub, Nat.reduceAdd, Nat.reduceLT, Nat.reduceLeDiff, Nat.reduceEqDiff, Nat.reduceMul, Nat.reducePow, Int.reduceLT, Int.reduceLE, Int.reduceAdd, Int.reduceMul, Int.reduceSub, Int.reduceNeg, Int.reduceEq, Int.reducePow, Int.reduceMod, Int.reduceDiv, Int.reduceToNat, decide_true, decide_false, and_true, true_and, and_self, Option.some.injEq, h1]
    rw [List.map_cons]
    unfold lcL
    subst h0
    rw [if_pos (gd_nil _), show nameG 2 a.pv [some (.ref r), o1, none] = some [some (.ref r), o1, some a.pv] from rfl]
    simp only [yesT]
    rw [fe]
    simp only
    rw [g2]
    simp only
    rw [if_pos (by rw [sizeLine_eq]; omega), g3, h2]
    simp only [putL, List.map_cons]
    rw [k3.ix k2]
    simp
theorem F_lput {ts : List Tr} (hT : Ok ts) (hl : ts.length ≤ 300) {r : Nat} : ∀ (f : Nat) (us : List Tr) (x : Tr) (s : Store), s[r]? = some (.lst (rows us)) → Ok us → (∀ u ∈ us, u ∈ ts) → us.Nodup → x ∈ ts → x.depth ≤ f → F_L_put f [.ref r, x.pv] s = .ok (.int (ix (putT us x) x)) (s.set r (.lst (rows (putT us x)))) := by
  intro f
  induction f with
  | zero => intro us x s _ _ _ _ _ h; have := depth_pos x; omega
  | succ f ih =>
    intro us x s hB hU hs hn hm hd
    have rl : r < s.length := (List.getElem?_eq_some_iff.mp hB).1
    have ul := nd_len hn hs
    -- the last steps, from a list that holds the arms
    have fin : ∀ (us : List Tr) (g : Store) (o2 : Option PV), Ok us → us.length ≤ 300 → Fit us x → (seqS (ifS (isB (opF isNonV (callF 2 F_L_held [] (consA (varF 0) (consA (varF 1) nilA))) (cstF .non))) (dropS (bmF' "list" appendV (varF 0) (consA (varF 1) nilA))) nxS)
        (retS (callF 2 F_L_held [] (consA (varF 0) (consA (varF 1) nilA))))) [some (.ref r), some (enc us x).pv, o2] (s.set r (.lst (rows us)) ++ g) = .rt (.int (ix (holdT us x) x)) (s.set r (.lst (rows (holdT us x))) ++ g) := fun us g o2 hU ul hx => by
      have g1 : (s.set r (.lst (rows us)) ++ g)[r]? = some (.lst (rows us)) := getOld (List.getElem?_set_self rl)
      have h1 := F_held g1 hU hx (by omega)
      unfold holdT
      by_cases h : x ∈ us
      · rw [if_pos h]
        have pe : pos us x = .int (ix us x) := by unfold pos; rw [if_pos h]
        rw [pe] at h1
        simp only [seqS, ifS, setS, augS, dropS, retS, retN, nxS, bkS, ctS, asgS, subS, R.toS, R.bind, R.of, opF, unF, varF, cstF, chF, isB, asB, andT, orT, notT, andF, orF, notF, ifF, nilA, consA, tupF, lstF, cbF, callF, bmF', truT, truV, nameG, nilG, consG, tupG, List.set_cons_zero, List.set_cons_succ, List.getElem?_cons_zero, List.getElem?_cons_succ, Option.bind_some, Option.bind_none, Option.map_some, Option.map_none, List.length_cons, List.length_nil, List.cons_append, List.nil_append, List.append_nil, if_true, if_false, ite_true, ite_false, Bool.false_eq_true, reduceIte, reduceCtorEq, List.map_cons, List.map_nil, Nat.sub_self, List.replicate_succ, List.replicate_zero, Nat.reduceSub, Nat.reduceAdd, Nat.reduceLT, Nat.reduceLeDiff, Nat.reduceEqDiff, Nat.reduceMul, Nat.reducePow, Int.reduceLT, Int.reduceLE, Int.reduceAdd, Int.reduceMul, Int.reduceSub, Int.reduceNeg, Int.reduceEq, Int.reducePow, Int.reduceMod, Int.reduceDiv, Int.reduceToNat, decide_true, decide_false, and_true, true_and, and_self, Option.some.injEq, addV, iaddV, subV, mulV, fdivV, modV, powV, negV, cmpV, isNonV, notNonV, h1]
      · rw [if_neg h]
        have pe : pos us x = .non := by unfold pos; rw [if_neg h]
        rw [pe] at h1
        have st1 : (s.set r (.lst (rows us)) ++ g).set r (.lst (rows us ++ [(enc us x).pv])) = s.set r (.lst (rows us ++ [(enc us x).pv])) ++ g := by
          rw [List.set_append_left _ _ (by rw [List.length_set]; exact rl), List.set_set]
        have g2 : (s.set r (.lst (rows (us ++ [x]))) ++ g)[r]? = some (.lst (rows (us ++ [x]))) := getOld (List.getElem?_set_self rl)
        have h2 := F_held g2 (hU.app hx) (hx.app fun z hz => List.mem_append_left _ hz) (by rw [List.length_append, List.length_singleton]; omega)
        have pe2 : pos (us ++ [x]) x = .int (ix (us ++ [x]) x) := by unfold pos; rw [if_pos (List.mem_append_right _ List.mem_cons_self)]
        rw [pe2, enc_app hx, rows_app hU hx] at h2
        rw [rows_app hU hx]
        have q : (rows us).length < 16777216 := by rw [rows_len]; omega
        simp only [seqS, ifS, setS, augS, dropS, retS, retN, nxS, bkS, ctS, asgS, subS, R.toS, R.bind, R.of, opF, unF, varF, cstF, chF, isB, asB, andT, orT, notT, andF, orF, notF, ifF, nilA, consA, tupF, lstF, cbF, callF, bmF', truT, truV, nameG, nilG, consG, tupG, List.set_cons_zero, List.set_cons_succ, List.getElem?_cons_zero, List.getElem?_cons_succ, Option.bind_some, Option.bind_none, Option.map_some, Option.map_none, List.length_cons, List.length_nil, List.cons_append, List.nil_append, List.append_nil, if_true, if_false, ite_true, ite_false, Bool.false_eq_true, reduceIte, reduceCtorEq, List.map_cons, List.map_nil, Nat.sub_self, List.replicate_succ, List.replicate_zero, Nat.reduceSub, Nat.reduceAdd, Nat.reduceLT, Nat.reduceLeDiff, Nat.reduceEqDiff, Nat.reduceMul, Nat.reducePow, Int.reduceLT, Int.reduceLE, Int.reduceAdd, Int.reduceMul, Int.reduceSub, Int.reduceNeg, Int.reduceEq, Int.reducePow, Int.reduceMod, Int.reduceDiv, Int.reduceToNat, decide_true, decide_false, and_true, true_and, and_self, Option.some.injEq, addV, iaddV, subV, mulV, fdivV, modV, powV, negV, cmpV, isNonV, notNonV, h1, tyOk, g1, beq_self_eq_true, appendV, sizeLine_eq, q, st1, h2]
    unfold F_L_put
    cases x with
    | any x => exact (hT _ hm).elim
    | num i =>
      have h := fin us [] none hU (by omega) trivial
      rw [List.append_nil, List.append_nil, set_same hB] at h
      simp only [enc, Tm.Tm.pv] at h
      refine run_set (g := []) ?_ rfl rl (rows_ok _ _)
      rw [List.append_nil]
      unfold b_L_put
      simp only [putT]
      refine (seqS_nx (e1 := [some (.ref r), some (.tup [.str "num", .int i]), none]) (s1 := s) (by simp only [Tr.pv, seqS, ifS, setS, augS, dropS, retS, retN, nxS, bkS, ctS, asgS, subS, R.toS, R.bind, R.of, opF, unF, varF, cstF, chF, isB, asB, andT, orT, notT, andF, orF, notF, ifF, nilA, consA, tupF, lstF, cbF, callF, bmF', truT, truV, nameG, nilG, consG, tupG, List.set_cons_zero, List.set_cons_succ, List.getElem?_cons_zero, List.getElem?_cons_succ, Option.bind_some, Option.bind_none, Option.map_some, Option.map_none, List.length_cons, List.length_nil, List.cons_append, List.nil_append, List.append_nil, if_true, if_false, ite_true, ite_false, Bool.false_eq_true, reduceIte, reduceCtorEq, List.map_cons, List.map_nil, Nat.sub_self, List.replicate_succ, List.replicate_zero, Nat.reduceSub, Nat.reduceAdd, Nat.reduceLT, Nat.reduceLeDiff, Nat.reduceEqDiff, Nat.reduceMul, Nat.reducePow, Int.reduceLT, Int.reduceLE, Int.reduceAdd, Int.reduceMul, Int.reduceSub, Int.reduceNeg, Int.reduceEq, Int.reducePow, Int.reduceMod, Int.reduceDiv, Int.reduceToNat, decide_true, decide_false, and_true, true_and, and_self, Option.some.injEq, eqV, neV, eqB, scEq, t1, t2, t3, t4, t5, t6, t7, t8, t9, t10, t11, t12, t13, t14, t15, t16, idxV, at0, at1, at2, at3, at4, at5, seqAt, lstAt, lenV, isiV, typV, kb1, kb2, kb3, kb4, kb5, kb6, kb7, kb8, kb9, kb10, kb11])).trans h
    | name y =>
      have h := fin us [] none hU (by omega) (show Az y from hT _ hm)
      rw [List.append_nil, List.append_nil, set_same hB] at h
      simp only [enc, Tm.Tm.pv] at h
      refine run_set (g := []) ?_ rfl rl (rows_ok _ _)
      rw [List.append_nil]
      unfold b_L_put
      simp only [putT]
      refine (seqS_nx (e1 := [some (.ref r), some (.tup [.str "name", .str y]), none]) (s1 := s) (by simp only [Tr.pv, seqS, ifS, setS, augS, dropS, retS, retN, nxS, bkS, ctS, asgS, subS, R.toS, R.bind, R.of, opF, unF, varF, cstF, chF, isB, asB, andT, orT, notT, andF, orF, notF, ifF, nilA, consA, tupF, lstF, cbF, callF, bmF', truT, truV, nameG, nilG, consG, tupG, List.set_cons_zero, List.set_cons_succ, List.getElem?_cons_zero, List.getElem?_cons_succ, Option.bind_some, Option.bind_none, Option.map_some, Option.map_none, List.length_cons, List.length_nil, List.cons_append, List.nil_append, List.append_nil, if_true, if_false, ite_true, ite_false, Bool.false_eq_true, reduceIte, reduceCtorEq, List.map_cons, List.map_nil, Nat.sub_self, List.replicate_succ, List.replicate_zero, Nat.reduceSub, Nat.reduceAdd, Nat.reduceLT, Nat.reduceLeDiff, Nat.reduceEqDiff, Nat.reduceMul, Nat.reducePow, Int.reduceLT, Int.reduceLE, Int.reduceAdd, Int.reduceMul, Int.reduceSub, Int.reduceNeg, Int.reduceEq, Int.reducePow, Int.reduceMod, Int.reduceDiv, Int.reduceToNat, decide_true, decide_false, and_true, true_and, and_self, Option.some.injEq, eqV, neV, eqB, scEq, t1, t2, t3, t4, t5, t6, t7, t8, t9, t10, t11, t12, t13, t14, t15, t16, idxV, at0, at1, at2, at3, at4, at5, seqAt, lstAt, lenV, isiV, typV, kb1, kb2, kb3, kb4, kb5, kb6, kb7, kb8, kb9, kb10, kb11])).trans h
    | of w as =>
      have hf : Fit ts (.of w as) := hT _ hm
      simp only [Tr.depth] at hd
      obtain ⟨k1, k2⟩ := putL_step hT us as hU hs hn hf.2.2
      have l1 := nd_len k1.nd k1.sub
      have lc0 := lc_put hT (r := r) (f := f) (o1 := some (Tr.of w as).pv) rfl ih as us [] s hB hU hs hn hf.2.2 (by omega) (by have := hf.2.1; simp only [List.length_nil]; omega)
      have lc : lcF (seqI (opF idxV (varF 1) (cstF (.int 2)))) [2] (nameG 2) yesT (b_L_put_e1 (F_L_put f)) [some (.ref r), some (Tr.of w as).pv, none] s = .ok (.ref s.length) (s.set r (.lst (rows (putL us as))) ++ [.lst (as.map fun a => .int (ix (putL us as) a))]) := by
        unfold lcF
        have hi : seqI (opF idxV (varF 1) (cstF (.int 2))) [some (.ref r), some (Tr.of w as).pv, none] s = .ok ⟨as.map Tr.pv, []⟩ s := by simp only [Tr.pv, pvs_map, seqI, seqS, ifS, setS, augS, dropS, retS, retN, nxS, bkS, ctS, asgS, subS, R.toS, R.bind, R.of, opF, unF, varF, cstF, chF, isB, asB, andT, orT, notT, andF, orF, notF, ifF, nilA, consA, tupF, lstF, cbF, callF, bmF', truT, truV, nameG, nilG, consG, tupG, List.set_cons_zero, List.set_cons_succ, List.getElem?_cons_zero, List.getElem?_cons_succ, Option.bind_some, Option.bind_none, Option.map_some, Option.map_none, List.length_cons, List.length_nil, List.cons_append, List.nil_append, List.append_nil, if_true, if_false, ite_true, ite_false, Bool.false_eq_true, reduceIte, reduceCtorEq, List.map_cons, List.map_nil, Nat.sub_self, List.replicate_succ, List.replicate_zero, Nat.reduceSub, Nat.reduceAdd, Nat.reduceLT, Nat.reduceLeDiff, Nat.reduceEqDiff, Nat.reduceMul, Nat.reducePow, Int.reduceLT, Int.reduceLE, Int.reduceAdd, Int.reduceMul, Int.reduceSub, Int.reduceNeg, Int.reduceEq, Int.reducePow, Int.reduceMod, Int.reduceDiv, Int.reduceToNat, decide_true, decide_false, and_true, true_and, and_self, Option.some.injEq, idxV, at0, at1, at2, at3, at4, at5, seqAt, lstAt, lenV, isiV, typV, kb1, kb2, kb3, kb4, kb5, kb6, kb7, kb8, kb9, kb10, kb11, gdOf]
        rw [hi, bind_ok]
        show R.of (lcL [] (nameG 2) yesT (b_L_put_e1 (F_L_put f)) s.length [some (.ref r), some (Tr.of w as).pv, none] (as.map Tr.pv) (s ++ [.lst []])) = _
        rw [lc0, of_some, List.nil_append]
      have h := fin (putL us as) [.lst (as.map fun a => .int (ix (putL us as) a))] none k1.ok (by omega) ⟨hf.1, hf.2.1, k2⟩
      rw [enc_of] at h
      refine run_set (g := [.lst (as.map fun a => .int (ix (putL us as) a))]) ?_ rfl rl (rows_ok _ _)
      unfold b_L_put
      simp only [putT]
      have g2 : (s.set r (.lst (rows (putL us as))) ++ [PO.lst (as.map fun a => .int (ix (putL us as) a))])[s.length]? = some (.lst (as.map fun a => .int (ix (putL us as) a))) := by
        have := getS0 (st := s.set r (.lst (rows (putL us as)))) (g := [PO.lst (as.map fun a => .int (ix (putL us as) a))])
        rw [List.length_set] at this
        rw [this]; rfl
      simp only [Tr.pv, pvs_map] at lc
      have step : ifS (isB (opF eqV (opF idxV (varF 1) (cstF (.int 0))) (cstF (.str ("of" : Str))))) (setS 1 (tupF (consA (cstF (.str ("of" : Str))) (consA (opF idxV (varF 1) (cstF (.int 1))) (consA (cbF tupleV (consA (lcF (seqI (opF idxV (varF 1) (cstF (.int 2)))) [2] (nameG 2) yesT (b_L_put_e1 (F_L_put f))) nilA)) nilA))))) nxS [some (.ref r), some (Tr.of w as).pv, none] s = .nx [some (.ref r), some (.tup [.str "of", .str w, .tup (as.map fun a => .int (ix (putL us as) a))]), none] (s.set r (.lst (rows (putL us as))) ++ [.lst (as.map fun a => .int (ix (putL us as) a))]) := by
        simp only [Tr.pv, pvs_map, seqS, ifS, setS, augS, dropS, retS, retN, nxS, bkS, ctS, asgS, subS, R.toS, R.bind, R.of, opF, unF, varF, cstF, chF, isB, asB, andT, orT, notT, andF, orF, notF, ifF, nilA, consA, tupF, lstF, cbF, callF, bmF', truT, truV, nameG, nilG, consG, tupG, List.set_cons_zero, List.set_cons_succ, List.getElem?_cons_zero, List.getElem?_cons_succ, Option.bind_some, Option.bind_none, Option.map_some, Option.map_none, List.length_cons, List.length_nil, List.cons_append, List.nil_append, List.append_nil, if_true, if_false, ite_true, ite_false, Bool.false_eq_true, reduceIte, reduceCtorEq, List.map_cons, List.map_nil, Nat.sub_self, List.replicate_succ, List.replicate_zero, Nat.reduceSub, Nat.reduceAdd, Nat.reduceLT, Nat.reduceLeDiff, Nat.reduceEqDiff, Nat.reduceMul, Nat.reducePow, Int.reduceLT, Int.reduceLE, Int.reduceAdd, Int.reduceMul, Int.reduceSub, Int.reduceNeg, Int.reduceEq, Int.reducePow, Int.reduceMod, Int.reduceDiv, Int.reduceToNat, decide_true, decide_false, and_true, true_and, and_self, Option.some.injEq, eqV, neV, eqB, scEq, t1, t2, t3, t4, t5, t6, t7, t8, t9, t10, t11, t12, t13, t14, t15, t16, idxV, at0, at1, at2, at3, at4, at5, seqAt, lstAt, lenV, isiV, typV, kb1, kb2, kb3, kb4, kb5, kb6, kb7, kb8, kb9, kb10, kb11, sizeLine_eq, lc, tupleV, g2]
      show seqS _ _ [some (.ref r), some (Tr.of w as).pv, none] s = _
      rw [seqS_nx step]
      exact h
end Bk
end
end FL
end
section
set_option linter.all false
set_option maxRecDepth 100000
namespace FL
open PySem PySem.Spec PyProof.Rows L2
noncomputable section
namespace Pk11
open Bk
open Tm (az_S Az md)
open Classical
def drawI (c f m : Int) : Int := (c % 2147483647 + 5) * f % 2147483629 / 89 % m
theorem F_draw {c f m : Int} {st : Store} (hf : f.natAbs < 2 ^ 200) (hm : 0 < m) : F_L_draw [.int c, .int f, .int m] st = .ok (.int (drawI c f m)) st := by
  have q := md c 2147483647 (by decide)
  have m1 : mulOk (c % 2147483647 + 5) f = true := mulOk_of (by omega) (by omega)
  have c89 : (0 < (89 : Int) ∧ (89 : Int).natAbs.log2 < 9000) := by decide
  unfold F_L_draw drawI
  refine run_rt0 ?_ rfl
  simp only [b_L_draw, seqS, ifS, setS, augS, dropS, retS, retN, nxS, bkS, ctS, asgS, subS, R.toS, R.bind, R.of, opF, unF, varF, cstF, chF, isB, asB, andT, orT, notT, andF, orF, notF, ifF, nilA, consA, tupF, lstF, cbF, callF, bmF', truT, truV, nameG, nilG, consG, tupG, List.set_cons_zero, List.set_cons_succ, List.getElem?_cons_zero, List.getElem?_cons_succ, Option.bind_some, Option.bind_none, Option.map_some, Option.map_none, List.length_cons, List.length_nil, List.cons_append, List.nil_append, List.append_nil, if_true, if_false, ite_true, ite_false, Bool.false_eq_true, reduceIte, reduceCtorEq, List.map_cons, List.map_nil, Nat.sub_self, List.replicate_succ, List.replicate_zero, Nat.reduceSub, Nat.reduceAdd, Nat.reduceLT, Nat.reduceLeDiff, Nat.reduceEqDiff, Nat.reduceMul, Nat.reducePow, Int.reduceLT, Int.reduceLE, Int.reduceAdd, Int.reduceMul, Int.reduceSub, Int.reduceNeg, Int.reduceEq, Int.reducePow, Int.reduceMod, Int.reduceDiv, Int.reduceToNat, decide_true, decide_false, and_true, true_and, and_self, Option.some.injEq, addV, iaddV, subV, mulV, fdivV, modV, powV, negV, cmpV, isNonV, notNonV, m1, c89, hm]
theorem draw_lt (c f m : Int) (h : 0 < m) : 0 ≤ drawI c f m ∧ drawI c f m < m := md _ _ h
theorem F_at {ns : List Int} {k : Int} {st : Store} (h0 : 0 ≤ k) : F_L_at [.frz (ns.map PV.int), .int k] st = .ok (.int (ns.getD k.toNat 0)) st := by
  unfold F_L_at
  refine run_rt0 ?_ rfl
  by_cases h : k < (ns.length : Int)
  · have ha : atI (ns.map PV.int) k = some (.int (ns.getD k.toNat 0)) := atI_nat' h0 (by
      rw [List.getElem?_map, List.getD_eq_getElem?_getD, List.getElem?_eq_getElem (by omega)]; rfl)
    simp only [b_L_at, seqS, ifS, setS, augS, dropS, retS, retN, nxS, bkS, ctS, asgS, subS, R.toS, R.bind, R.of, opF, unF, varF, cstF, chF, isB, asB, andT, orT, notT, andF, orF, notF, ifF, nilA, consA, tupF, lstF, cbF, callF, bmF', truT, truV, nameG, nilG, consG, tupG, List.set_cons_zero, List.set_cons_succ, List.getElem?_cons_zero, List.getElem?_cons_succ, Option.bind_some, Option.bind_none, Option.map_some, Option.map_none, List.length_cons, List.length_nil, List.cons_append, List.nil_append, List.append_nil, if_true, if_false, ite_true, ite_false, Bool.false_eq_true, reduceIte, reduceCtorEq, List.map_cons, List.map_nil, Nat.sub_self, List.replicate_succ, List.replicate_zero, Nat.reduceSub, Nat.reduceAdd, Nat.reduceLT, Nat.reduceLeDiff, Nat.reduceEqDiff, Nat.reduceMul, Nat.reducePow, Int.reduceLT, Int.reduceLE, Int.reduceAdd, Int.reduceMul, Int.reduceSub, Int.reduceNeg, Int.reduceEq, Int.reducePow, Int.reduceMod, Int.reduceDiv, Int.reduceToNat, decide_true, decide_false, and_true, true_and, and_self, Option.some.injEq, addV, iaddV, subV, mulV, fdivV, modV, powV, negV, cmpV, isNonV, notNonV, idxV, at0, at1, at2, at3, at4, at5, seqAt, lstAt, lenV, isiV, typV, kb1, kb2, kb3, kb4, kb5, kb6, kb7, kb8, kb9, kb10, kb11, List.length_map, h, ha]
  · have e : ns.getD k.toNat 0 = 0 := by rw [List.getD_eq_getElem?_getD, List.getElem?_eq_none (by omega)]; rfl
    simp only [b_L_at, seqS, ifS, setS, augS, dropS, retS, retN, nxS, bkS, ctS, asgS, subS, R.toS, R.bind, R.of, opF, unF, varF, cstF, chF, isB, asB, andT, orT, notT, andF, orF, notF, ifF, nilA, consA, tupF, lstF, cbF, callF, bmF', truT, truV, nameG, nilG, consG, tupG, List.set_cons_zero, List.set_cons_succ, List.getElem?_cons_zero, List.getElem?_cons_succ, Option.bind_some, Option.bind_none, Option.map_some, Option.map_none, List.length_cons, List.length_nil, List.cons_append, List.nil_append, List.append_nil, if_true, if_false, ite_true, ite_false, Bool.false_eq_true, reduceIte, reduceCtorEq, List.map_cons, List.map_nil, Nat.sub_self, List.replicate_succ, List.replicate_zero, Nat.reduceSub, Nat.reduceAdd, Nat.reduceLT, Nat.reduceLeDiff, Nat.reduceEqDiff, Nat.reduceMul, Nat.reducePow, Int.reduceLT, Int.reduceLE, Int.reduceAdd, Int.reduceMul, Int.reduceSub, Int.reduceNeg, Int.reduceEq, Int.reducePow, Int.reduceMod, Int.reduceDiv, Int.reduceToNat, decide_true, decide_false, and_true, true_and, and_self, Option.some.injEq, addV, iaddV, subV, mulV, fdivV, modV, powV, negV, cmpV, isNonV, notNonV, idxV, at0, at1, at2, at3, at4, at5, seqAt, lstAt, lenV, isiV, typV, kb1, kb2, kb3, kb4, kb5, kb6, kb7, kb8, kb9, kb10, kb11, List.length_map, h, e]
theorem F_word {ns : List Int} {w : Int} {st : Store} : ∃ x, F_L_word_3 [.frz (ns.map PV.int), .int w] st = .ok (.str x) st ∧ Az x := by
  obtain ⟨m, hm⟩ : ∃ m, m = ns.getD 0 0 := ⟨_, rfl⟩
  have hat : ∀ s, F_L_at [.frz (ns.map PV.int), .int 0] s = .ok (.int m) s := fun s => by rw [hm]; exact F_at (k := 0) (by decide)
  have z1 := md m 8 (by decide)
  have z3 := md (m / 64) 26 (by decide)
  have z4 := md (m / 1664 + w) 26 (by decide)
  have a := md (m / 8) (1 + m % 8) (by omega)
  have c8 : (0 < (8 : Int) ∧ (8 : Int).natAbs.log2 < 9000) := by decide
  have c64 : (0 < (64 : Int) ∧ (64 : Int).natAbs.log2 < 9000) := by decide
  have c1664 : (0 < (1664 : Int) ∧ (1664 : Int).natAbs.log2 < 9000) := by decide
  have np : 0 < 1 + m % 8 := by omega
  have r1 : 0 ≤ m / 8 % (1 + m % 8) ∧ m / 8 % (1 + m % 8) ≤ 1000 ∧ (1 : Nat) ≤ 1000 := by omega
  have r2 : 0 ≤ 1 + m % 8 - 1 - m / 8 % (1 + m % 8) ∧ 1 + m % 8 - 1 - m / 8 % (1 + m % 8) ≤ 1000 ∧ (1 : Nat) ≤ 1000 := by omega
  refine ⟨S (List.replicate (m / 8 % (1 + m % 8)).toNat (97 + (m / 64 % 26).toNat) ++ [97 + ((m / 1664 + w) % 26).toNat] ++ List.replicate (1 + m % 8 - 1 - m / 8 % (1 + m % 8)).toNat (97 + (m / 64 % 26).toNat)), ?_, az_S fun x hx => ?_⟩
  · unfold F_L_word_3
    refine run_rt0 ?_ rfl
    simp only [b_L_word_3, seqS, ifS, setS, augS, dropS, retS, retN, nxS, bkS, ctS, asgS, subS, R.toS, R.bind, R.of, opF, unF, varF, cstF, chF, isB, asB, andT, orT, notT, andF, orF, notF, ifF, nilA, consA, tupF, lstF, cbF, callF, bmF', truT, truV, nameG, nilG, consG, tupG, List.set_cons_zero, List.set_cons_succ, List.getElem?_cons_zero, List.getElem?_cons_succ, Option.bind_some, Option.bind_none, Option.map_some, Option.map_none, List.length_cons, List.length_nil, List.cons_append, List.nil_append, List.append_nil, if_true, if_false, ite_true, ite_false, Bool.false_eq_true, reduceIte, reduceCtorEq, List.map_cons, List.map_nil, Nat.sub_self, List.replicate_succ, List.replicate_zero, Nat.reduceSub, Nat.reduceAdd, Nat.reduceLT, Nat.reduceLeDiff, Nat.reduceEqDiff, Nat.reduceMul, Nat.reducePow, Int.reduceLT, Int.reduceLE, Int.reduceAdd, Int.reduceMul, Int.reduceSub, Int.reduceNeg, Int.reduceEq, Int.reducePow, Int.reduceMod, Int.reduceDiv, Int.reduceToNat, decide_true, decide_false, and_true, true_and, and_self, Option.some.injEq, addV, iaddV, subV, mulV, fdivV, modV, powV, negV, cmpV, isNonV, notNonV, idxV, at0, at1, at2, at3, at4, at5, seqAt, lstAt, lenV, isiV, typV, kb1, kb2, kb3, kb4, kb5, kb6, kb7, kb8, kb9, kb10, kb11, hat, c8, c64, c1664, np, letters_eq, S_cps, S_len, List.length_map, List.length_range, sizeLine_eq, letters_at z3.1 z3.2, letters_at z4.1 z4.2, S_one, r1, r2, S_mul _ _ a.1, S_mul _ _ r2.1, flat_one, List.length_replicate, S_app, List.length_append]
    rw [if_pos (by omega)]
    simp only [S_len, S_app, List.length_append, List.length_replicate, List.length_cons, List.length_nil]
    rw [if_pos (by omega)]
  · simp only [List.mem_append, List.mem_replicate, List.mem_singleton] at hx
    omega
theorem F_leaf {ns : List Int} {c : Int} {st : Store} : ∃ t, F_L_leaf_4 [.frz (ns.map PV.int), .int c] st = .ok (Tr.pv t) st ∧ t.depth = 1 ∧ ∀ us, Fit us t := by
  have d1 := fun s => F_draw (c := c) (f := 69621) (m := 4) (st := s) (by decide) (by decide)
  have d2 := fun s => F_draw (c := c) (f := 40692) (m := 5) (st := s) (by decide) (by decide)
  have d3 := fun s => F_draw (c := c) (f := 40692) (m := 4) (st := s) (by decide) (by decide)
  obtain ⟨x, hx, ax⟩ := F_word (ns := ns) (w := drawI c 40692 4) (st := st)
  have c1 : ((0 : Int) ≤ 60 ∧ (60 : Int) ≤ 1000000 ∧ (10 : Int).natAbs < 2 ^ 64) := by decide
  have m4 : mulOk 2 1000000000000000000000000000000000000000000000000000000000000 = true := by decide +kernel
  unfold F_L_leaf_4
  by_cases e0 : drawI c 69621 4 = 0
  · refine ⟨.num (c % 1999999999999999999999999999999999999999999999999999999999999 - 999999999999999999999999999999999999999999999999999999999999), run_rt0 ?_ (FL.pv_pure _), rfl, fun _ => trivial⟩
    simp only [b_L_leaf_4, Tr.pv, seqS, ifS, setS, augS, dropS, retS, retN, nxS, bkS, ctS, asgS, subS, R.toS, R.bind, R.of, opF, unF, varF, cstF, chF, isB, asB, andT, orT, notT, andF, orF, notF, ifF, nilA, consA, tupF, lstF, cbF, callF, bmF', truT, truV, nameG, nilG, consG, tupG, List.set_cons_zero, List.set_cons_succ, List.getElem?_cons_zero, List.getElem?_cons_succ, Option.bind_some, Option.bind_none, Option.map_some, Option.map_none, List.length_cons, List.length_nil, List.cons_append, List.nil_append, List.append_nil, if_true, if_false, ite_true, ite_false, Bool.false_eq_true, reduceIte, reduceCtorEq, List.map_cons, List.map_nil, Nat.sub_self, List.replicate_succ, List.replicate_zero, Nat.reduceSub, Nat.reduceAdd, Nat.reduceLT, Nat.reduceLeDiff, Nat.reduceEqDiff, Nat.reduceMul, Nat.reducePow, Int.reduceLT, Int.reduceLE, Int.reduceAdd, Int.reduceMul, Int.reduceSub, Int.reduceNeg, Int.reduceEq, Int.reducePow, Int.reduceMod, Int.reduceDiv, Int.reduceToNat, decide_true, decide_false, and_true, true_and, and_self, Option.some.injEq, addV, iaddV, subV, mulV, fdivV, modV, powV, negV, cmpV, isNonV, notNonV, eqV, neV, eqB, scEq, t1, t2, t3, t4, t5, t6, t7, t8, t9, t10, t11, t12, t13, t14, t15, t16, sizeLine_eq, d1, e0, c1, m4]
  by_cases e1 : drawI c 69621 4 = 1
  · refine ⟨.num (drawI c 40692 5 - 2), run_rt0 ?_ (FL.pv_pure _), rfl, fun _ => trivial⟩
    simp only [b_L_leaf_4, Tr.pv, seqS, ifS, setS, augS, dropS, retS, retN, nxS, bkS, ctS, asgS, subS, R.toS, R.bind, R.of, opF, unF, varF, cstF, chF, isB, asB, andT, orT, notT, andF, orF, notF, ifF, nilA, consA, tupF, lstF, cbF, callF, bmF', truT, truV, nameG, nilG, consG, tupG, List.set_cons_zero, List.set_cons_succ, List.getElem?_cons_zero, List.getElem?_cons_succ, Option.bind_some, Option.bind_none, Option.map_some, Option.map_none, List.length_cons, List.length_nil, List.cons_append, List.nil_append, List.append_nil, if_true, if_false, ite_true, ite_false, Bool.false_eq_true, reduceIte, reduceCtorEq, List.map_cons, List.map_nil, Nat.sub_self, List.replicate_succ, List.replicate_zero, Nat.reduceSub, Nat.reduceAdd, Nat.reduceLT, Nat.reduceLeDiff, Nat.reduceEqDiff, Nat.reduceMul, Nat.reducePow, Int.reduceLT, Int.reduceLE, Int.reduceAdd, Int.reduceMul, Int.reduceSub, Int.reduceNeg, Int.reduceEq, Int.reducePow, Int.reduceMod, Int.reduceDiv, Int.reduceToNat, decide_true, decide_false, and_true, true_and, and_self, Option.some.injEq, addV, iaddV, subV, mulV, fdivV, modV, powV, negV, cmpV, isNonV, notNonV, eqV, neV, eqB, scEq, t1, t2, t3, t4, t5, t6, t7, t8, t9, t10, t11, t12, t13, t14, t15, t16, sizeLine_eq, d1, d2, e0, e1]
  · refine ⟨.name x, run_rt0 ?_ (FL.pv_pure _), rfl, fun _ => ax⟩
    simp only [b_L_leaf_4, Tr.pv, seqS, ifS, setS, augS, dropS, retS, retN, nxS, bkS, ctS, asgS, subS, R.toS, R.bind, R.of, opF, unF, varF, cstF, chF, isB, asB, andT, orT, notT, andF, orF, notF, ifF, nilA, consA, tupF, lstF, cbF, callF, bmF', truT, truV, nameG, nilG, consG, tupG, List.set_cons_zero, List.set_cons_succ, List.getElem?_cons_zero, List.getElem?_cons_succ, Option.bind_some, Option.bind_none, Option.map_some, Option.map_none, List.length_cons, List.length_nil, List.cons_append, List.nil_append, List.append_nil, if_true, if_false, ite_true, ite_false, Bool.false_eq_true, reduceIte, reduceCtorEq, List.map_cons, List.map_nil, Nat.sub_self, List.replicate_succ, List.replicate_zero, Nat.reduceSub, Nat.reduceAdd, Nat.reduceLT, Nat.reduceLeDiff, Nat.reduceEqDiff, Nat.reduceMul, Nat.reducePow, Int.reduceLT, Int.reduceLE, Int.reduceAdd, Int.reduceMul, Int.reduceSub, Int.reduceNeg, Int.reduceEq, Int.reducePow, Int.reduceMod, Int.reduceDiv, Int.reduceToNat, decide_true, decide_false, and_true, true_and, and_self, Option.some.injEq, addV, iaddV, subV, mulV, fdivV, modV, powV, negV, cmpV, isNonV, notNonV, eqV, neV, eqB, scEq, t1, t2, t3, t4, t5, t6, t7, t8, t9, t10, t11, t12, t13, t14, t15, t16, sizeLine_eq, d1, d3, e0, e1, hx]
/-! ### the trees -/
abbrev Rw := Tr × Int
def rowP (q : Rw) : PV := .tup [q.1.pv, .int q.2, .int (q.1.depth : Nat)]
def fsts (ws : List Rw) : List Tr := ws.map (·.1)
theorem toD_tr {ts : List Tr} (hT : Ok ts) : ∀ (d : Nat) (t : Tr) (s : Store), t ∈ ts → t.depth ≤ d → ∀ k, ∃ D, toD (2 * d + k) s t.pv = some D := by
  intro d
  induction d with
  | zero => intro t s _ h; have := depth_pos t; omega
  | succ d ih =>
    intro t s hm hd k
    have e : 2 * (d + 1) + k = (2 * d + k) + 1 + 1 := by omega
    rw [e]
    cases t with
    | any x => exact (hT _ hm).elim
    | num i =>
      refine ⟨.tuple [.str "num", .int i], ?_⟩
      show (toDs (toD (2 * d + k + 1) s) [.str "num", .int i]).map PyData.tuple = _
      simp only [toDs, Tm.toD_str Tm.tag_ok.1]
      rfl
    | name x =>
      refine ⟨.tuple [.str "name", .str x], ?_⟩
      show (toDs (toD (2 * d + k + 1) s) [.str "name", .str x]).map PyData.tuple = _
      simp only [toDs, Tm.toD_str Tm.tag_ok.2.1, Tm.toD_str (show PyData.strOk x = true from hT _ hm)]
      rfl
    | of w as =>
      have hf : Fit ts (.of w as) := hT _ hm
      simp only [Tr.depth] at hd
      obtain ⟨ds, hds⟩ := Tm.toDs_map (f := toD (2 * d + k) s) (g := Tr.pv) (xs := as) fun a ha => ih a s (hf.2.2 a ha) (Nat.le_trans (depthL_le ha) (by omega)) k
      have e1 : toD (2 * d + k + 1) s (.tup (as.map Tr.pv)) = some (.tuple ds) := by
        show (toDs (toD (2 * d + k) s) (as.map Tr.pv)).map PyData.tuple = _
        rw [hds]
        rfl
      refine ⟨.tuple [.str "of", .str w, .tuple ds], ?_⟩
      show (toDs (toD (2 * d + k + 1) s) (match Tr.of w as with | .of w as => [.str "of", .str w, .tup (pvs as)] | _ => [])).map PyData.tuple = _
      simp only [pvs_map, toDs, Tm.toD_str Tm.tag_ok.2.2, Tm.toD_str hf.1, e1]
      rfl
theorem rows_empty {ws : List Rw} {r e : Nat} {s : Store} (hT : Ok (fsts ws)) (hd : ∀ q ∈ ws, q.1.depth ≤ 30) (hr : s[r]? = some (.lst (ws.map rowP))) (he : s[e]? = some (.lst [])) : eqV (.ref r) (.ref e) s = some (.bl (decide (ws = [])), s) := by
  obtain ⟨ds, hds⟩ := Tm.toDs_map (f := toD 63 s) (g := rowP) (xs := ws) fun q hq => by
    obtain ⟨D, hD⟩ := toD_tr hT 30 q.1 s (List.mem_map.mpr ⟨q, hq, rfl⟩) (hd q hq) 2
    refine ⟨.tuple [D, .int q.2, .int (q.1.depth : Nat)], ?_⟩
    show (toDs (toD 62 s) [q.1.pv, .int q.2, .int (q.1.depth : Nat)]).map PyData.tuple = _
    simp only [toDs]
    rw [hD]
    rfl
  have e1 : toD 64 s (.ref r) = some (.list ds) := by
    show (match s[r]? with
      | some (.lst xs) => (toDs (toD 63 s) xs).map PyData.list
      | _ => none) = _
    rw [hr]
    show (toDs (toD 63 s) (ws.map rowP)).map PyData.list = _
    rw [hds]
    rfl
  have e2 : toD 64 s (.ref e) = some (.list []) := by
    show (match s[e]? with
      | some (.lst xs) => (toDs (toD 63 s) xs).map PyData.list
      | _ => none) = _
    rw [he]
    rfl
  have e3 : PyData.eqvAll ds [] = decide (ws = []) := by
    cases ws with
    | nil =>
      simp only [List.map_nil, toDs, Option.some.injEq] at hds
      subst hds
      rfl
    | cons a q =>
      cases ds with
      | nil =>
        rw [List.map_cons] at hds
        simp only [toDs] at hds
        split at hds <;> cases hds
      | cons x y => simp [PyData.eqvAll]
  unfold eqV eqB
  rw [show scEq (.ref r) (.ref e) = none from rfl]
  simp only [e1, e2]
  show some (PV.bl (PyData.eqvAll ds []), s) = _
  rw [e3]
theorem rng1_ok {f : FA} {e : Env} {s : Store} {j : Int} (h : f e s = .ok [.int j] s) (h0 : 0 ≤ j) (hj : j < 1000000) : rng1I f e s = .ok ⟨intL 0 1 j.toNat, []⟩ s := by
  unfold rng1I
  rw [h, bind_ok]
  show (if -(2 ^ 62) ≤ j ∧ j < 2 ^ 62 then _ else _) = _
  rw [if_pos ⟨by omega, by omega⟩]
theorem row_pure (q : Rw) : pureP (rowP q) = true := by simp [rowP, pureP, puresP, FL.pv_pure]
/-- one step: a leaf or a knot over earlier ones comes to the list, or nothing -/
theorem step_trees {ns : List Int} {c : Int} {st g : Store} {r : Nat} {ws : List Rw} {o4 o5 o6 o7 o8 : Option PV} (hr : (st ++ g)[r]? = some (.lst (ws.map rowP))) (hl : st.length ≤ r) (hT : Ok (fsts ws)) (hd : ∀ q ∈ ws, q.1.depth ≤ 30) (hn : ws.length ≤ 40) :
    ∃ (ws' : List Rw) (g' : Store) (e' : Env), b_L_trees_s8 [some (.frz (ns.map PV.int)), some (.int 20), some (.ref r), some (.int c), o4, o5, o6, o7, o8, none, none, none, none] (st ++ g) = .nx e' (st ++ g') ∧
      (∃ a b c' d f h, e' = [some (.frz (ns.map PV.int)), some (.int 20), some (.ref r), c', a, b, d, f, h, none, none, none, none]) ∧ (st ++ g')[r]? = some (.lst (ws'.map rowP)) ∧ Ok (fsts ws') ∧ (∀ q ∈ ws', q.1.depth ≤ 30) ∧ ws'.length ≤ ws.length + 1 ∧
      (∀ k o, k ≠ r → (st ++ g)[k]? = some o → (st ++ g')[k]? = some o) := by
  have rl : r < (st ++ g).length := (List.getElem?_eq_some_iff.mp hr).1
  have hr' : ∀ k, (st ++ (g ++ k))[r]? = some (.lst (ws.map rowP)) := fun k => by rw [← appS]; exact getOld hr
  have g0 : ∀ k, (st ++ (g ++ k))[(st ++ g).length]? = k[0]? := fun k => by rw [← appS]; exact getS0
  have cmp := rows_empty (ws := ws) (r := r) (e := (st ++ g).length) (s := st ++ (g ++ [.lst []])) hT hd (hr' _) (g0 _)
  have c4 : (0 < (4 : Int) ∧ (4 : Int).natAbs.log2 < 9000) := by decide
  have dr : ∀ f m s, f.natAbs < 2 ^ 200 → 0 < m → F_L_draw [.int c, .int f, .int m] s = .ok (.int (drawI c f m)) s := fun f m s h1 h2 => F_draw h1 h2
  have d8 := fun s => dr 48271 8 s (by decide) (by decide)
  have d13 := fun s => dr 16807 13 s (by decide) (by decide)
  have d3 := fun s => dr 1664525 3 s (by decide) (by decide)
  have q : ws.length < 16777216 := by omega
  -- the end: a row is put behind
  have put : ∀ (w : Rw) (G : Store), Fit (fsts ws) w.1 → w.1.depth ≤ 30 → ∃ g', (st ++ (g ++ G)).set r (.lst (ws.map rowP ++ [rowP w])) = st ++ g' ∧ (st ++ g')[r]? = some (.lst ((ws ++ [w]).map rowP)) ∧ Ok (fsts (ws ++ [w])) ∧ (∀ q ∈ ws ++ [w], q.1.depth ≤ 30) ∧ (ws ++ [w]).length ≤ ws.length + 1 ∧ (∀ k o, k ≠ r → (st ++ g)[k]? = some o → (st ++ g')[k]? = some o) := fun w G hw hd' => by
    refine ⟨(g ++ G).set (r - st.length) (.lst (ws.map rowP ++ [rowP w])), List.set_append_right _ _ hl, ?_, ?_, ?_, by simp, ?_⟩
    · rw [← List.set_append_right _ _ hl, List.getElem?_set_self (List.getElem?_eq_some_iff.mp (hr' G)).1, List.map_append]
      rfl
    · unfold fsts
      rw [List.map_append]
      exact hT.app hw
    · intro z hz
      rcases List.mem_append.mp hz with y | y
      · exact hd z y
      · rw [List.mem_singleton] at y; rw [y]; exact hd'
    · intro k o hk ho
      rw [← List.set_append_right _ _ hl, List.getElem?_set_ne (fun e => hk e.symm), ← appS]
      exact getOld ho
  have tk : ∀ k, tyOk "list" (.ref r) (st ++ (g ++ k)) = true := fun k => by simp only [tyOk, hr']; rfl
  by_cases leaf : ws = [] ∨ drawI c 48271 8 < 3
  · obtain ⟨t, ht, t1, tf⟩ := F_leaf (ns := ns) (c := c) (st := st ++ (g ++ [.lst []]))
    obtain ⟨g', e1, e2, e3, e4, e5, e6⟩ := put (t, 1) [.lst []] (tf _) (by show t.depth ≤ 30; omega)
    refine ⟨ws ++ [(t, 1)], g', _, ?_, ⟨o4, o5, some (.int c), o6, o7, o8, rfl⟩, e2, e3, e4, e5, e6⟩
    rw [← e1]
    have hrow : rowP (t, 1) = .tup [t.pv, .int 1, .int 1] := by simp only [rowP, t1]; rfl
    rw [hrow]
    by_cases h0 : ws = []
    · simp only [b_L_trees_s8, seqS, ifS, setS, augS, dropS, retS, retN, nxS, bkS, ctS, asgS, subS, R.toS, R.bind, R.of, opF, unF, varF, cstF, chF, isB, asB, andT, orT, notT, andF, orF, notF, ifF, nilA, consA, tupF, lstF, cbF, callF, bmF', truT, truV, nameG, nilG, consG, tupG, List.set_cons_zero, List.set_cons_succ, List.getElem?_cons_zero, List.getElem?_cons_succ, Option.bind_some, Option.bind_none, Option.map_some, Option.map_none, List.length_cons, List.length_nil, List.cons_append, List.nil_append, List.append_nil, if_true, if_false, ite_true, ite_false, Bool.false_eq_true, reduceIte, reduceCtorEq, List.map_cons, List.map_nil, Nat.sub_self, List.replicate_succ, List.replicate_zero, Nat.reduceSub, Nat.reduceAdd, Nat.reduceLT, Nat.reduceLeDiff, Nat.reduceEqDiff, Nat.reduceMul, Nat.reducePow, Int.reduceLT, Int.reduceLE, Int.reduceAdd, Int.reduceMul, Int.reduceSub, Int.reduceNeg, Int.reduceEq, Int.reducePow, Int.reduceMod, Int.reduceDiv, Int.reduceToNat, decide_true, decide_false, and_true, true_and, and_self, Option.some.injEq, addV, iaddV, subV, mulV, fdivV, modV, powV, negV, cmpV, isNonV, notNonV, sizeLine_eq, appS, cmp, h0, ht]
      subst h0
      have h2 := hr' [.lst []]
      rw [List.map_nil] at h2
      simp only [seqS, ifS, setS, augS, dropS, retS, retN, nxS, bkS, ctS, asgS, subS, R.toS, R.bind, R.of, opF, unF, varF, cstF, chF, isB, asB, andT, orT, notT, andF, orF, notF, ifF, nilA, consA, tupF, lstF, cbF, callF, bmF', truT, truV, nameG, nilG, consG, tupG, List.set_cons_zero, List.set_cons_succ, List.getElem?_cons_zero, List.getElem?_cons_succ, Option.bind_some, Option.bind_none, Option.map_some, Option.map_none, List.length_cons, List.length_nil, List.cons_append, List.nil_append, List.append_nil, if_true, if_false, ite_true, ite_false, Bool.false_eq_true, reduceIte, reduceCtorEq, List.map_cons, List.map_nil, Nat.sub_self, List.replicate_succ, List.replicate_zero, Nat.reduceSub, Nat.reduceAdd, Nat.reduceLT, Nat.reduceLeDiff, Nat.reduceEqDiff, Nat.reduceMul, Nat.reducePow, Int.reduceLT, Int.reduceLE, Int.reduceAdd, Int.reduceMul, Int.reduceSub, Int.reduceNeg, Int.reduceEq, Int.reducePow, Int.reduceMod, Int.reduceDiv, Int.reduceToNat, decide_true, decide_false, and_true, true_and, and_self, Option.some.injEq, tk, appendV, h2, sizeLine_eq, List.map_nil]
    · have h1 := leaf.resolve_left h0
      simp only [b_L_trees_s8, seqS, ifS, setS, augS, dropS, retS, retN, nxS, bkS, ctS, asgS, subS, R.toS, R.bind, R.of, opF, unF, varF, cstF, chF, isB, asB, andT, orT, notT, andF, orF, notF, ifF, nilA, consA, tupF, lstF, cbF, callF, bmF', truT, truV, nameG, nilG, consG, tupG, List.set_cons_zero, List.set_cons_succ, List.getElem?_cons_zero, List.getElem?_cons_succ, Option.bind_some, Option.bind_none, Option.map_some, Option.map_none, List.length_cons, List.length_nil, List.cons_append, List.nil_append, List.append_nil, if_true, if_false, ite_true, ite_false, Bool.false_eq_true, reduceIte, reduceCtorEq, List.map_cons, List.map_nil, Nat.sub_self, List.replicate_succ, List.replicate_zero, Nat.reduceSub, Nat.reduceAdd, Nat.reduceLT, Nat.reduceLeDiff, Nat.reduceEqDiff, Nat.reduceMul, Nat.reducePow, Int.reduceLT, Int.reduceLE, Int.reduceAdd, Int.reduceMul, Int.reduceSub, Int.reduceNeg, Int.reduceEq, Int.reducePow, Int.reduceMod, Int.reduceDiv, Int.reduceToNat, decide_true, decide_false, and_true, true_and, and_self, Option.some.injEq, addV, iaddV, subV, mulV, fdivV, modV, powV, negV, cmpV, isNonV, notNonV, sizeLine_eq, appS, cmp, h0, d8, h1, ht, tk, appendV, hr', List.length_map, q]
  · have h0 : ¬ ws = [] := fun z => leaf (.inl z)
    have h1 : ¬ drawI c 48271 8 < 3 := fun z => leaf (.inr z)
    have wp : 0 < ws.length := List.length_pos_iff.mpr h0
    have wp' : (0 : Int) < (ws.length : Int) := by omega
    have z13 := draw_lt c 16807 13 (by decide)
    obtain ⟨n, hn'⟩ : ∃ n : Int, n = 1 + drawI c 16807 13 / 4 := ⟨_, rfl⟩
    have n4 : 1 ≤ n ∧ n ≤ 4 := by omega
    obtain ⟨d0, hd0⟩ : ∃ d, d ∈ ws := ⟨ws[0], List.getElem_mem wp⟩
    let pk : Nat → Rw := fun j => ws.getD (drawI c ((0 + (j : Int) * 1 + 2) * 742938285) (ws.length : Int)).toNat d0
    have pm : ∀ j, pk j ∈ ws := fun j => by
      have z := draw_lt c ((0 + (j : Int) * 1 + 2) * 742938285) (ws.length : Int) wp'
      show ws.getD _ d0 ∈ ws
      rw [List.getD_eq_getElem?_getD, List.getElem?_eq_getElem (by omega)]
      exact List.getElem_mem _
    obtain ⟨ch, hch⟩ : ∃ ch : List Rw, ch = (List.range n.toNat).map pk := ⟨_, rfl⟩
    have chm : ∀ w ∈ ch, w ∈ ws := fun w hw => by
      rw [hch] at hw
      obtain ⟨j, _, rfl⟩ := List.mem_map.mp hw
      exact pm j
    have chl : ch.length = n.toNat := by rw [hch, List.length_map, List.length_range]
    have ch0 : ch ≠ [] := fun z => by rw [z, List.length_nil] at chl; omega
    -- the arms
    have l7 : lcF (rng1I (consA (varF 4) nilA)) [11] (nameG 11) yesT b_L_trees_e7 [some (.frz (ns.map PV.int)), some (.int 20), some (.ref r), some (.int c), some (.int n), o5, o6, o7, o8, none, none, none, none] (st ++ (g ++ [PO.lst []])) = .ok (.ref (st ++ (g ++ [PO.lst []])).length) (st ++ (g ++ [PO.lst []]) ++ [.lst (ch.map rowP)]) := by
      rw [hch, List.map_map]
      refine lcF_map (gd := []) (List.range n.toNat) (fun i : Nat => PV.int (0 + (i : Nat) * 1)) (rowP ∘ pk) (rng1_ok (j := n) (by simp only [seqS, ifS, setS, augS, dropS, retS, retN, nxS, bkS, ctS, asgS, subS, R.toS, R.bind, R.of, opF, unF, varF, cstF, chF, isB, asB, andT, orT, notT, andF, orF, notF, ifF, nilA, consA, tupF, lstF, cbF, callF, bmF', truT, truV, nameG, nilG, consG, tupG, List.set_cons_zero, List.set_cons_succ, List.getElem?_cons_zero, List.getElem?_cons_succ, Option.bind_some, Option.bind_none, Option.map_some, Option.map_none, List.length_cons, List.length_nil, List.cons_append, List.nil_append, List.append_nil, if_true, if_false, ite_true, ite_false, Bool.false_eq_true, reduceIte, reduceCtorEq, List.map_cons, List.map_nil, Nat.sub_self, List.replicate_succ, List.replicate_zero, Nat.reduceSub, Nat.reduceAdd, Nat.reduceLT, Nat.reduceLeDiff, Nat.reduceEqDiff, Nat.reduceMul, Nat.reducePow, Int.reduceLT, Int.reduceLE, Int.reduceAdd, Int.reduceMul, Int.reduceSub, Int.reduceNeg, Int.reduceEq, Int.reducePow, Int.reduceMod, Int.reduceDiv, Int.reduceToNat, decide_true, decide_false, and_true, true_and, and_self, Option.some.injEq]) (by omega) (by omega)) (fun _ => gd_nil _) (by rw [sizeLine_eq, List.length_range]; omega) fun j hj => ⟨_, rfl, fun acc => ?_⟩
      have jl := List.mem_range.mp hj
      have mk : mulOk (0 + (j : Int) * 1 + 2) 742938285 = true := mulOk_of (by omega) (by decide)
      have z := draw_lt c ((0 + (j : Int) * 1 + 2) * 742938285) (ws.length : Int) wp'
      have ha : atI (ws.map rowP) (drawI c ((0 + (j : Int) * 1 + 2) * 742938285) (ws.length : Int)) = some (rowP (pk j)) := atI_nat' z.1 (by
        rw [List.getElem?_map, List.getElem?_eq_getElem (by omega)]
        show some (rowP _) = some (rowP (ws.getD _ d0))
        rw [List.getD_eq_getElem?_getD, List.getElem?_eq_getElem (by omega)]
        rfl)
      have hr2 : (st ++ (g ++ PO.lst [] :: [PO.lst acc]))[r]? = some (.lst (ws.map rowP)) := hr' _
      have dd := dr ((0 + (j : Int) * 1 + 2) * 742938285) (ws.length : Int) (st ++ (g ++ PO.lst [] :: [PO.lst acc])) (by omega) wp'
      simp only [b_L_trees_e7, wipeE, seqS, ifS, setS, augS, dropS, retS, retN, nxS, bkS, ctS, asgS, subS, R.toS, R.bind, R.of, opF, unF, varF, cstF, chF, isB, asB, andT, orT, notT, andF, orF, notF, ifF, nilA, consA, tupF, lstF, cbF, callF, bmF', truT, truV, nameG, nilG, consG, tupG, List.set_cons_zero, List.set_cons_succ, List.getElem?_cons_zero, List.getElem?_cons_succ, Option.bind_some, Option.bind_none, Option.map_some, Option.map_none, List.length_cons, List.length_nil, List.cons_append, List.nil_append, List.append_nil, if_true, if_false, ite_true, ite_false, Bool.false_eq_true, reduceIte, reduceCtorEq, List.map_cons, List.map_nil, Nat.sub_self, List.replicate_succ, List.replicate_zero, Nat.reduceSub, Nat.reduceAdd, Nat.reduceLT, Nat.reduceLeDiff, Nat.reduceEqDiff, Nat.reduceMul, Nat.reducePow, Int.reduceLT, Int.reduceLE, Int.reduceAdd, Int.reduceMul, Int.reduceSub, Int.reduceNeg, Int.reduceEq, Int.reducePow, Int.reduceMod, Int.reduceDiv, Int.reduceToNat, decide_true, decide_false, and_true, true_and, and_self, Option.some.injEq, addV, iaddV, subV, mulV, fdivV, modV, powV, negV, cmpV, isNonV, notNonV, idxV, at0, at1, at2, at3, at4, at5, seqAt, lstAt, lenV, isiV, typV, kb1, kb2, kb3, kb4, kb5, kb6, kb7, kb8, kb9, kb10, kb11, appS, hr2, List.length_map, mk, dd, ha]
      rfl
    obtain ⟨x, hx, ax⟩ := F_word (ns := ns) (w := drawI c 1664525 3) (st := st ++ (g ++ [.lst [], .lst (ch.map rowP)]))
    obtain ⟨mny, hmny⟩ : ∃ z : Int, z = 1 + (ch.map fun w => w.2).sum := ⟨_, rfl⟩
    have hA : ∀ k, (st ++ (g ++ PO.lst [] :: PO.lst (ch.map rowP) :: k))[(st ++ (g ++ [PO.lst []])).length]? = some (.lst (ch.map rowP)) := fun k => by
      have : (st ++ (g ++ PO.lst [] :: PO.lst (ch.map rowP) :: k)) = (st ++ (g ++ [PO.lst []])) ++ PO.lst (ch.map rowP) :: k := by simp
      rw [this, getS0]; rfl
    have gk : ∀ (a b d : PO) k, (st ++ (g ++ a :: b :: d :: k))[(st ++ (g ++ [a, b])).length]? = some d := fun a b d k => by
      have : (st ++ (g ++ a :: b :: d :: k)) = (st ++ (g ++ [a, b])) ++ d :: k := by simp
      rw [this, getS0]; rfl
    have gk2 : ∀ (a b d f : PO) k, (st ++ (g ++ a :: b :: d :: f :: k))[(st ++ (g ++ [a, b, d])).length]? = some f := fun a b d f k => by
      have : (st ++ (g ++ a :: b :: d :: f :: k)) = (st ++ (g ++ [a, b, d])) ++ f :: k := by simp
      rw [this, getS0]; rfl
    have gk3 : ∀ (a b d f h : PO) k, (st ++ (g ++ a :: b :: d :: f :: h :: k))[(st ++ (g ++ [a, b, d, f])).length]? = some h := fun a b d f h k => by
      have : (st ++ (g ++ a :: b :: d :: f :: h :: k)) = (st ++ (g ++ [a, b, d, f])) ++ h :: k := by simp
      rw [this, getS0]; rfl
    have lE : ∀ (fe : FE) (φ : Rw → PV) (e : Env) (s : Store), e[5]? = some (some (.ref (st ++ (g ++ [PO.lst []])).length)) → s[(st ++ (g ++ [PO.lst []])).length]? = some (.lst (ch.map rowP)) → (∀ w acc, fe ((wipeE e [12]).set 12 (some (rowP w))) (s ++ [.lst acc]) = .ok (φ w) (s ++ [.lst acc])) → lcF (seqI (varF 5)) [12] (nameG 12) yesT fe e s = .ok (.ref s.length) (s ++ [.lst (ch.map φ)]) := fun fe φ e s h5 hs hf => lcE _ ch rowP φ h5 hs (by omega) fun w _ acc => hf w acc
    have l6 := fun o6 o7 o8 s h => lE b_L_trees_e6 (fun w => .int w.2) [some (.frz (ns.map PV.int)), some (.int 20), some (.ref r), some (.int c), some (.int n), some (.ref (st ++ (g ++ [PO.lst []])).length), o6, o7, o8, none, none, none, none] s rfl h (fun w acc => by simp only [b_L_trees_e6, rowP, wipeE, seqS, ifS, setS, augS, dropS, retS, retN, nxS, bkS, ctS, asgS, subS, R.toS, R.bind, R.of, opF, unF, varF, cstF, chF, isB, asB, andT, orT, notT, andF, orF, notF, ifF, nilA, consA, tupF, lstF, cbF, callF, bmF', truT, truV, nameG, nilG, consG, tupG, List.set_cons_zero, List.set_cons_succ, List.getElem?_cons_zero, List.getElem?_cons_succ, Option.bind_some, Option.bind_none, Option.map_some, Option.map_none, List.length_cons, List.length_nil, List.cons_append, List.nil_append, List.append_nil, if_true, if_false, ite_true, ite_false, Bool.false_eq_true, reduceIte, reduceCtorEq, List.map_cons, List.map_nil, Nat.sub_self, List.replicate_succ, List.replicate_zero, Nat.reduceSub, Nat.reduceAdd, Nat.reduceLT, Nat.reduceLeDiff, Nat.reduceEqDiff, Nat.reduceMul, Nat.reducePow, Int.reduceLT, Int.reduceLE, Int.reduceAdd, Int.reduceMul, Int.reduceSub, Int.reduceNeg, Int.reduceEq, Int.reducePow, Int.reduceMod, Int.reduceDiv, Int.reduceToNat, decide_true, decide_false, and_true, true_and, and_self, Option.some.injEq, idxV, at0, at1, at2, at3, at4, at5, seqAt, lstAt, lenV, isiV, typV, kb1, kb2, kb3, kb4, kb5, kb6, kb7, kb8, kb9, kb10, kb11])
    have l5 := fun o6 o7 o8 s h => lE b_L_trees_e5 (fun w => .int (w.1.depth : Nat)) [some (.frz (ns.map PV.int)), some (.int 20), some (.ref r), some (.int c), some (.int n), some (.ref (st ++ (g ++ [PO.lst []])).length), o6, o7, o8, none, none, none, none] s rfl h (fun w acc => by simp only [b_L_trees_e5, rowP, wipeE, seqS, ifS, setS, augS, dropS, retS, retN, nxS, bkS, ctS, asgS, subS, R.toS, R.bind, R.of, opF, unF, varF, cstF, chF, isB, asB, andT, orT, notT, andF, orF, notF, ifF, nilA, consA, tupF, lstF, cbF, callF, bmF', truT, truV, nameG, nilG, consG, tupG, List.set_cons_zero, List.set_cons_succ, List.getElem?_cons_zero, List.getElem?_cons_succ, Option.bind_some, Option.bind_none, Option.map_some, Option.map_none, List.length_cons, List.length_nil, List.cons_append, List.nil_append, List.append_nil, if_true, if_false, ite_true, ite_false, Bool.false_eq_true, reduceIte, reduceCtorEq, List.map_cons, List.map_nil, Nat.sub_self, List.replicate_succ, List.replicate_zero, Nat.reduceSub, Nat.reduceAdd, Nat.reduceLT, Nat.reduceLeDiff, Nat.reduceEqDiff, Nat.reduceMul, Nat.reducePow, Int.reduceLT, Int.reduceLE, Int.reduceAdd, Int.reduceMul, Int.reduceSub, Int.reduceNeg, Int.reduceEq, Int.reducePow, Int.reduceMod, Int.reduceDiv, Int.reduceToNat, decide_true, decide_false, and_true, true_and, and_self, Option.some.injEq, idxV, at0, at1, at2, at3, at4, at5, seqAt, lstAt, lenV, isiV, typV, kb1, kb2, kb3, kb4, kb5, kb6, kb7, kb8, kb9, kb10, kb11])
    have l4 := fun o6 o7 o8 s h => lE b_L_trees_e4 (fun w => w.1.pv) [some (.frz (ns.map PV.int)), some (.int 20), some (.ref r), some (.int c), some (.int n), some (.ref (st ++ (g ++ [PO.lst []])).length), o6, o7, o8, none, none, none, none] s rfl h (fun w acc => by simp only [b_L_trees_e4, rowP, wipeE, seqS, ifS, setS, augS, dropS, retS, retN, nxS, bkS, ctS, asgS, subS, R.toS, R.bind, R.of, opF, unF, varF, cstF, chF, isB, asB, andT, orT, notT, andF, orF, notF, ifF, nilA, consA, tupF, lstF, cbF, callF, bmF', truT, truV, nameG, nilG, consG, tupG, List.set_cons_zero, List.set_cons_succ, List.getElem?_cons_zero, List.getElem?_cons_succ, Option.bind_some, Option.bind_none, Option.map_some, Option.map_none, List.length_cons, List.length_nil, List.cons_append, List.nil_append, List.append_nil, if_true, if_false, ite_true, ite_false, Bool.false_eq_true, reduceIte, reduceCtorEq, List.map_cons, List.map_nil, Nat.sub_self, List.replicate_succ, List.replicate_zero, Nat.reduceSub, Nat.reduceAdd, Nat.reduceLT, Nat.reduceLeDiff, Nat.reduceEqDiff, Nat.reduceMul, Nat.reducePow, Int.reduceLT, Int.reduceLE, Int.reduceAdd, Int.reduceMul, Int.reduceSub, Int.reduceNeg, Int.reduceEq, Int.reducePow, Int.reduceMod, Int.reduceDiv, Int.reduceToNat, decide_true, decide_false, and_true, true_and, and_self, Option.some.injEq, idxV, at0, at1, at2, at3, at4, at5, seqAt, lstAt, lenV, isiV, typV, kb1, kb2, kb3, kb4, kb5, kb6, kb7, kb8, kb9, kb10, kb11])
    have hne : (ch.map fun a => ((a.1.depth : Nat) : Int)) ≠ [] := by simpa using ch0
    have md' : maxL (ch.map fun a => ((a.1.depth : Nat) : Int)) = ((depthL (fsts ch) : Nat) : Int) := by
      rw [← maxL_depth (show fsts ch ≠ [] by simpa [fsts] using ch0)]
      simp only [fsts, List.map_map]
      rfl
    have pm' : (ch.map fun t => t.1.pv) = pvs (fsts ch) := by rw [pvs_map]; simp [fsts]
    let E8 : Env := [some (.frz (ns.map PV.int)), some (.int 20), some (.ref r), some (.int c), some (.int n), some (.ref (st ++ (g ++ [PO.lst []])).length), some (.str x), some (.int mny), some (.int (1 + ((depthL (fsts ch) : Nat) : Int))), none, none, none, none]
    let S8 : Store := st ++ (g ++ [.lst [], .lst (ch.map rowP), .lst (ch.map fun w => .int w.2), .lst (ch.map fun w => .int (w.1.depth : Nat))])
    have upto : ∀ (z : RS), (ifS (andT (isB (opF leV (varF 7) (varF 1))) (isB (opF leV (varF 8) (cstF (.int 30))))) (dropS (bmF' "list" appendV (varF 2) (consA (tupF (consA (tupF (consA (cstF (.str ("of" : Str))) (consA (varF 6) (consA (cbF tupleV (consA (lcF (seqI (varF 5)) [12] (nameG 12) yesT b_L_trees_e4) nilA)) nilA)))) (consA (varF 7) (consA (varF 8) nilA)))) nilA))) nxS) E8 S8 = z →
        b_L_trees_s8 [some (.frz (ns.map PV.int)), some (.int 20), some (.ref r), some (.int c), o4, o5, o6, o7, o8, none, none, none, none] (st ++ g) = z := fun z hz => by
      have t1 : (orT (isB (opF eqV (varF 2) (lstF nilA))) (isB (opF ltV (callF 3 F_L_draw [] (consA (varF 3) (consA (cstF (.int 48271)) (consA (cstF (.int 8)) nilA)))) (cstF (.int 3))))) [some (.frz (ns.map PV.int)), some (.int 20), some (.ref r), some (.int c), o4, o5, o6, o7, o8, none, none, none, none] (st ++ g) = .ok false (st ++ (g ++ [.lst []])) := by
        simp only [seqS, ifS, setS, augS, dropS, retS, retN, nxS, bkS, ctS, asgS, subS, R.toS, R.bind, R.of, opF, unF, varF, cstF, chF, isB, asB, andT, orT, notT, andF, orF, notF, ifF, nilA, consA, tupF, lstF, cbF, callF, bmF', truT, truV, nameG, nilG, consG, tupG, List.set_cons_zero, List.set_cons_succ, List.getElem?_cons_zero, List.getElem?_cons_succ, Option.bind_some, Option.bind_none, Option.map_some, Option.map_none, List.length_cons, List.length_nil, List.cons_append, List.nil_append, List.append_nil, if_true, if_false, ite_true, ite_false, Bool.false_eq_true, reduceIte, reduceCtorEq, List.map_cons, List.map_nil, Nat.sub_self, List.replicate_succ, List.replicate_zero, Nat.reduceSub, Nat.reduceAdd, Nat.reduceLT, Nat.reduceLeDiff, Nat.reduceEqDiff, Nat.reduceMul, Nat.reducePow, Int.reduceLT, Int.reduceLE, Int.reduceAdd, Int.reduceMul, Int.reduceSub, Int.reduceNeg, Int.reduceEq, Int.reducePow, Int.reduceMod, Int.reduceDiv, Int.reduceToNat, decide_true, decide_false, and_true, true_and, and_self, Option.some.injEq, addV, iaddV, subV, mulV, fdivV, modV, powV, negV, cmpV, isNonV, notNonV, sizeLine_eq, appS, cmp, h0, d8, h1]
      unfold b_L_trees_s8
      refine (ifS_f t1).trans ?_
      refine (seqS_nx (e1 := [some (.frz (ns.map PV.int)), some (.int 20), some (.ref r), some (.int c), some (.int n), o5, o6, o7, o8, none, none, none, none]) (s1 := st ++ (g ++ [.lst []])) (by simp only [seqS, ifS, setS, augS, dropS, retS, retN, nxS, bkS, ctS, asgS, subS, R.toS, R.bind, R.of, opF, unF, varF, cstF, chF, isB, asB, andT, orT, notT, andF, orF, notF, ifF, nilA, consA, tupF, lstF, cbF, callF, bmF', truT, truV, nameG, nilG, consG, tupG, List.set_cons_zero, List.set_cons_succ, List.getElem?_cons_zero, List.getElem?_cons_succ, Option.bind_some, Option.bind_none, Option.map_some, Option.map_none, List.length_cons, List.length_nil, List.cons_append, List.nil_append, List.append_nil, if_true, if_false, ite_true, ite_false, Bool.false_eq_true, reduceIte, reduceCtorEq, List.map_cons, List.map_nil, Nat.sub_self, List.replicate_succ, List.replicate_zero, Nat.reduceSub, Nat.reduceAdd, Nat.reduceLT, Nat.reduceLeDiff, Nat.reduceEqDiff, Nat.reduceMul, Nat.reducePow, Int.reduceLT, Int.reduceLE, Int.reduceAdd, Int.reduceMul, Int.reduceSub, Int.reduceNeg, Int.reduceEq, Int.reducePow, Int.reduceMod, Int.reduceDiv, Int.reduceToNat, decide_true, decide_false, and_true, true_and, and_self, Option.some.injEq, addV, iaddV, subV, mulV, fdivV, modV, powV, negV, cmpV, isNonV, notNonV, d13, c4, ← hn'])).trans ?_
      refine (seqS_nx (e1 := [some (.frz (ns.map PV.int)), some (.int 20), some (.ref r), some (.int c), some (.int n), some (.ref (st ++ (g ++ [PO.lst []])).length), o6, o7, o8, none, none, none, none]) (s1 := st ++ (g ++ [.lst [], .lst (ch.map rowP)])) (by simp only [seqS, ifS, setS, augS, dropS, retS, retN, nxS, bkS, ctS, asgS, subS, R.toS, R.bind, R.of, opF, unF, varF, cstF, chF, isB, asB, andT, orT, notT, andF, orF, notF, ifF, nilA, consA, tupF, lstF, cbF, callF, bmF', truT, truV, nameG, nilG, consG, tupG, List.set_cons_zero, List.set_cons_succ, List.getElem?_cons_zero, List.getElem?_cons_succ, Option.bind_some, Option.bind_none, Option.map_some, Option.map_none, List.length_cons, List.length_nil, List.cons_append, List.nil_append, List.append_nil, if_true, if_false, ite_true, ite_false, Bool.false_eq_true, reduceIte, reduceCtorEq, List.map_cons, List.map_nil, Nat.sub_self, List.replicate_succ, List.replicate_zero, Nat.reduceSub, Nat.reduceAdd, Nat.reduceLT, Nat.reduceLeDiff, Nat.reduceEqDiff, Nat.reduceMul, Nat.reducePow, Int.reduceLT, Int.reduceLE, Int.reduceAdd, Int.reduceMul, Int.reduceSub, Int.reduceNeg, Int.reduceEq, Int.reducePow, Int.reduceMod, Int.reduceDiv, Int.reduceToNat, decide_true, decide_false, and_true, true_and, and_self, Option.some.injEq, l7, appS])).trans ?_
      refine (seqS_nx (e1 := [some (.frz (ns.map PV.int)), some (.int 20), some (.ref r), some (.int c), some (.int n), some (.ref (st ++ (g ++ [PO.lst []])).length), some (.str x), o7, o8, none, none, none, none]) (s1 := st ++ (g ++ [.lst [], .lst (ch.map rowP)])) (by simp only [seqS, ifS, setS, augS, dropS, retS, retN, nxS, bkS, ctS, asgS, subS, R.toS, R.bind, R.of, opF, unF, varF, cstF, chF, isB, asB, andT, orT, notT, andF, orF, notF, ifF, nilA, consA, tupF, lstF, cbF, callF, bmF', truT, truV, nameG, nilG, consG, tupG, List.set_cons_zero, List.set_cons_succ, List.getElem?_cons_zero, List.getElem?_cons_succ, Option.bind_some, Option.bind_none, Option.map_some, Option.map_none, List.length_cons, List.length_nil, List.cons_append, List.nil_append, List.append_nil, if_true, if_false, ite_true, ite_false, Bool.false_eq_true, reduceIte, reduceCtorEq, List.map_cons, List.map_nil, Nat.sub_self, List.replicate_succ, List.replicate_zero, Nat.reduceSub, Nat.reduceAdd, Nat.reduceLT, Nat.reduceLeDiff, Nat.reduceEqDiff, Nat.reduceMul, Nat.reducePow, Int.reduceLT, Int.reduceLE, Int.reduceAdd, Int.reduceMul, Int.reduceSub, Int.reduceNeg, Int.reduceEq, Int.reducePow, Int.reduceMod, Int.reduceDiv, Int.reduceToNat, decide_true, decide_false, and_true, true_and, and_self, Option.some.injEq, d3, hx])).trans ?_
      refine (seqS_nx (e1 := [some (.frz (ns.map PV.int)), some (.int 20), some (.ref r), some (.int c), some (.int n), some (.ref (st ++ (g ++ [PO.lst []])).length), some (.str x), some (.int mny), o8, none, none, none, none]) (s1 := st ++ (g ++ [.lst [], .lst (ch.map rowP), .lst (ch.map fun w => .int w.2)])) (by simp only [seqS, ifS, setS, augS, dropS, retS, retN, nxS, bkS, ctS, asgS, subS, R.toS, R.bind, R.of, opF, unF, varF, cstF, chF, isB, asB, andT, orT, notT, andF, orF, notF, ifF, nilA, consA, tupF, lstF, cbF, callF, bmF', truT, truV, nameG, nilG, consG, tupG, List.set_cons_zero, List.set_cons_succ, List.getElem?_cons_zero, List.getElem?_cons_succ, Option.bind_some, Option.bind_none, Option.map_some, Option.map_none, List.length_cons, List.length_nil, List.cons_append, List.nil_append, List.append_nil, if_true, if_false, ite_true, ite_false, Bool.false_eq_true, reduceIte, reduceCtorEq, List.map_cons, List.map_nil, Nat.sub_self, List.replicate_succ, List.replicate_zero, Nat.reduceSub, Nat.reduceAdd, Nat.reduceLT, Nat.reduceLeDiff, Nat.reduceEqDiff, Nat.reduceMul, Nat.reducePow, Int.reduceLT, Int.reduceLE, Int.reduceAdd, Int.reduceMul, Int.reduceSub, Int.reduceNeg, Int.reduceEq, Int.reducePow, Int.reduceMod, Int.reduceDiv, Int.reduceToNat, decide_true, decide_false, and_true, true_and, and_self, Option.some.injEq, addV, iaddV, subV, mulV, fdivV, modV, powV, negV, cmpV, isNonV, notNonV, l6 _ _ _ _ (hA _), sumV, lstAt, appS, gk, intsOf_mapf ch (fun w => w.2), hmny])).trans ?_
      refine (seqS_nx (e1 := E8) (s1 := S8) (by simp only [seqS, ifS, setS, augS, dropS, retS, retN, nxS, bkS, ctS, asgS, subS, R.toS, R.bind, R.of, opF, unF, varF, cstF, chF, isB, asB, andT, orT, notT, andF, orF, notF, ifF, nilA, consA, tupF, lstF, cbF, callF, bmF', truT, truV, nameG, nilG, consG, tupG, List.set_cons_zero, List.set_cons_succ, List.getElem?_cons_zero, List.getElem?_cons_succ, Option.bind_some, Option.bind_none, Option.map_some, Option.map_none, List.length_cons, List.length_nil, List.cons_append, List.nil_append, List.append_nil, if_true, if_false, ite_true, ite_false, Bool.false_eq_true, reduceIte, reduceCtorEq, List.map_cons, List.map_nil, Nat.sub_self, List.replicate_succ, List.replicate_zero, Nat.reduceSub, Nat.reduceAdd, Nat.reduceLT, Nat.reduceLeDiff, Nat.reduceEqDiff, Nat.reduceMul, Nat.reducePow, Int.reduceLT, Int.reduceLE, Int.reduceAdd, Int.reduceMul, Int.reduceSub, Int.reduceNeg, Int.reduceEq, Int.reducePow, Int.reduceMod, Int.reduceDiv, Int.reduceToNat, decide_true, decide_false, and_true, true_and, and_self, Option.some.injEq, addV, iaddV, subV, mulV, fdivV, modV, powV, negV, cmpV, isNonV, notNonV, l5 _ _ _ _ (hA _), maxV, lstAt, appS, gk2, intsOf_mapf ch (fun a => ((a.1.depth : Nat) : Int)), hne, md', E8, S8])).trans ?_
      exact hz
    by_cases fit : mny ≤ 20 ∧ 1 + ((depthL (fsts ch) : Nat) : Int) ≤ 30
    · have ff : Fit (fsts ws) (.of x (fsts ch)) := ⟨ax, by unfold fsts; rw [List.length_map]; omega, fun a ha => by
        obtain ⟨w, hw, rfl⟩ := List.mem_map.mp ha
        exact List.mem_map.mpr ⟨w, chm w hw, rfl⟩⟩
      obtain ⟨g', e1, e2, e3, e4, e5, e6⟩ := put (.of x (fsts ch), mny) [.lst [], .lst (ch.map rowP), .lst (ch.map fun w => .int w.2), .lst (ch.map fun w => .int (w.1.depth : Nat)), .lst (ch.map fun w => w.1.pv)] ff (by simp only [Tr.depth]; omega)
      refine ⟨ws ++ [(.of x (fsts ch), mny)], g', E8, ?_, ⟨_, _, _, _, _, _, rfl⟩, e2, e3, e4, e5, e6⟩
      refine upto _ ?_
      rw [← e1]
      have hrow : rowP (.of x (fsts ch), mny) = .tup [.tup [.str "of", .str x, .tup (ch.map fun w => w.1.pv)], .int mny, .int (1 + ((depthL (fsts ch) : Nat) : Int))] := by
        simp only [rowP, Tr.pv, Tr.depth, pm', Int.natCast_add]
        rfl
      rw [hrow]
      simp only [E8, S8, seqS, ifS, setS, augS, dropS, retS, retN, nxS, bkS, ctS, asgS, subS, R.toS, R.bind, R.of, opF, unF, varF, cstF, chF, isB, asB, andT, orT, notT, andF, orF, notF, ifF, nilA, consA, tupF, lstF, cbF, callF, bmF', truT, truV, nameG, nilG, consG, tupG, List.set_cons_zero, List.set_cons_succ, List.getElem?_cons_zero, List.getElem?_cons_succ, Option.bind_some, Option.bind_none, Option.map_some, Option.map_none, List.length_cons, List.length_nil, List.cons_append, List.nil_append, List.append_nil, if_true, if_false, ite_true, ite_false, Bool.false_eq_true, reduceIte, reduceCtorEq, List.map_cons, List.map_nil, Nat.sub_self, List.replicate_succ, List.replicate_zero, Nat.reduceSub, Nat.reduceAdd, Nat.reduceLT, Nat.reduceLeDiff, Nat.reduceEqDiff, Nat.reduceMul, Nat.reducePow, Int.reduceLT, Int.reduceLE, Int.reduceAdd, Int.reduceMul, Int.reduceSub, Int.reduceNeg, Int.reduceEq, Int.reducePow, Int.reduceMod, Int.reduceDiv, Int.reduceToNat, decide_true, decide_false, and_true, true_and, and_self, Option.some.injEq, addV, iaddV, subV, mulV, fdivV, modV, powV, negV, cmpV, isNonV, notNonV, fit.1, fit.2, tk, l4 _ _ _ _ (hA _), tupleV, seqAt, lstAt, appS, gk3, sizeLine_eq, appendV, hr', List.length_map, q]
    · refine ⟨ws, g ++ [.lst [], .lst (ch.map rowP), .lst (ch.map fun w => .int w.2), .lst (ch.map fun w => .int (w.1.depth : Nat))], E8, upto _ ?_, ⟨_, _, _, _, _, _, rfl⟩, hr' _, hT, hd, by omega, fun k o _ ho => by rw [← appS]; exact getOld ho⟩
      by_cases f1 : mny ≤ 20
      · have f2 : ¬ 1 + ((depthL (fsts ch) : Nat) : Int) ≤ 30 := fun z => fit ⟨f1, z⟩
        simp only [E8, S8, seqS, ifS, setS, augS, dropS, retS, retN, nxS, bkS, ctS, asgS, subS, R.toS, R.bind, R.of, opF, unF, varF, cstF, chF, isB, asB, andT, orT, notT, andF, orF, notF, ifF, nilA, consA, tupF, lstF, cbF, callF, bmF', truT, truV, nameG, nilG, consG, tupG, List.set_cons_zero, List.set_cons_succ, List.getElem?_cons_zero, List.getElem?_cons_succ, Option.bind_some, Option.bind_none, Option.map_some, Option.map_none, List.length_cons, List.length_nil, List.cons_append, List.nil_append, List.append_nil, if_true, if_false, ite_true, ite_false, Bool.false_eq_true, reduceIte, reduceCtorEq, List.map_cons, List.map_nil, Nat.sub_self, List.replicate_succ, List.replicate_zero, Nat.reduceSub, Nat.reduceAdd, Nat.reduceLT, Nat.reduceLeDiff, Nat.reduceEqDiff, Nat.reduceMul, Nat.reducePow, Int.reduceLT, Int.reduceLE, Int.reduceAdd, Int.reduceMul, Int.reduceSub, Int.reduceNeg, Int.reduceEq, Int.reducePow, Int.reduceMod, Int.reduceDiv, Int.reduceToNat, decide_true, decide_false, and_true, true_and, and_self, Option.some.injEq, addV, iaddV, subV, mulV, fdivV, modV, powV, negV, cmpV, isNonV, notNonV, f1, f2]
      · simp only [E8, S8, seqS, ifS, setS, augS, dropS, retS, retN, nxS, bkS, ctS, asgS, subS, R.toS, R.bind, R.of, opF, unF, varF, cstF, chF, isB, asB, andT, orT, notT, andF, orF, notF, ifF, nilA, consA, tupF, lstF, cbF, callF, bmF', truT, truV, nameG, nilG, consG, tupG, List.set_cons_zero, List.set_cons_succ, List.getElem?_cons_zero, List.getElem?_cons_succ, Option.bind_some, Option.bind_none, Option.map_some, Option.map_none, List.length_cons, List.length_nil, List.cons_append, List.nil_append, List.append_nil, if_true, if_false, ite_true, ite_false, Bool.false_eq_true, reduceIte, reduceCtorEq, List.map_cons, List.map_nil, Nat.sub_self, List.replicate_succ, List.replicate_zero, Nat.reduceSub, Nat.reduceAdd, Nat.reduceLT, Nat.reduceLeDiff, Nat.reduceEqDiff, Nat.reduceMul, Nat.reducePow, Int.reduceLT, Int.reduceLE, Int.reduceAdd, Int.reduceMul, Int.reduceSub, Int.reduceNeg, Int.reduceEq, Int.reducePow, Int.reduceMod, Int.reduceDiv, Int.reduceToNat, decide_true, decide_false, and_true, true_and, and_self, Option.some.injEq, addV, iaddV, subV, mulV, fdivV, modV, powV, negV, cmpV, isNonV, notNonV, f1]
theorem cells_ok {ns : List Int} {st : Store} (hns : ns.length ≤ 63) : ∃ cs0 : List Int, lcF (rng1I (consA (cbF lenV (consA (varF 0) nilA)) nilA)) [10] (nameG 10) b_L_trees_t3 b_L_trees_e2 [some (.frz (ns.map PV.int)), some (.int 20), some (.ref st.length), none, none, none, none, none, none, none, none, none, none] (st ++ [PO.lst []]) = .ok (.ref (st ++ [PO.lst []]).length) (st ++ [PO.lst []] ++ [.lst (cs0.map PV.int)]) := by
  refine ⟨((List.range ns.length).filter fun i : Nat => decide ((0 + (i : Int) * 1) % 2 = 1)).map fun i => ns.getD i 0, ?_⟩
  rw [List.map_map]
  refine lcF_filter (gd := []) (List.range ns.length) (fun i : Nat => PV.int (0 + (i : Nat) * 1)) (fun i : Nat => decide ((0 + (i : Int) * 1) % 2 = 1)) (PV.int ∘ fun i => ns.getD i 0) (rng1_ok (j := (ns.length : Int)) (by simp only [seqS, ifS, setS, augS, dropS, retS, retN, nxS, bkS, ctS, asgS, subS, R.toS, R.bind, R.of, opF, unF, varF, cstF, chF, isB, asB, andT, orT, notT, andF, orF, notF, ifF, nilA, consA, tupF, lstF, cbF, callF, bmF', truT, truV, nameG, nilG, consG, tupG, List.set_cons_zero, List.set_cons_succ, List.getElem?_cons_zero, List.getElem?_cons_succ, Option.bind_some, Option.bind_none, Option.map_some, Option.map_none, List.length_cons, List.length_nil, List.cons_append, List.nil_append, List.append_nil, if_true, if_false, ite_true, ite_false, Bool.false_eq_true, reduceIte, reduceCtorEq, List.map_cons, List.map_nil, Nat.sub_self, List.replicate_succ, List.replicate_zero, Nat.reduceSub, Nat.reduceAdd, Nat.reduceLT, Nat.reduceLeDiff, Nat.reduceEqDiff, Nat.reduceMul, Nat.reducePow, Int.reduceLT, Int.reduceLE, Int.reduceAdd, Int.reduceMul, Int.reduceSub, Int.reduceNeg, Int.reduceEq, Int.reducePow, Int.reduceMod, Int.reduceDiv, Int.reduceToNat, decide_true, decide_false, and_true, true_and, and_self, Option.some.injEq, idxV, at0, at1, at2, at3, at4, at5, seqAt, lstAt, lenV, isiV, typV, kb1, kb2, kb3, kb4, kb5, kb6, kb7, kb8, kb9, kb10, kb11, List.length_map]) (by omega) (by omega)) (fun _ => gd_nil _) (by rw [sizeLine_eq, List.length_range]; omega) fun j hj => ⟨[some (.frz (ns.map PV.int)), some (.int 20), some (.ref st.length), none, none, none, none, none, none, none, some (.int (0 + (j : Nat) * 1)), none, none], rfl, fun acc => ⟨?_, fun _ => ?_⟩⟩
  · simp only [b_L_trees_t3, seqS, ifS, setS, augS, dropS, retS, retN, nxS, bkS, ctS, asgS, subS, R.toS, R.bind, R.of, opF, unF, varF, cstF, chF, isB, asB, andT, orT, notT, andF, orF, notF, ifF, nilA, consA, tupF, lstF, cbF, callF, bmF', truT, truV, nameG, nilG, consG, tupG, List.set_cons_zero, List.set_cons_succ, List.getElem?_cons_zero, List.getElem?_cons_succ, Option.bind_some, Option.bind_none, Option.map_some, Option.map_none, List.length_cons, List.length_nil, List.cons_append, List.nil_append, List.append_nil, if_true, if_false, ite_true, ite_false, Bool.false_eq_true, reduceIte, reduceCtorEq, List.map_cons, List.map_nil, Nat.sub_self, List.replicate_succ, List.replicate_zero, Nat.reduceSub, Nat.reduceAdd, Nat.reduceLT, Nat.reduceLeDiff, Nat.reduceEqDiff, Nat.reduceMul, Nat.reducePow, Int.reduceLT, Int.reduceLE, Int.reduceAdd, Int.reduceMul, Int.reduceSub, Int.reduceNeg, Int.reduceEq, Int.reducePow, Int.reduceMod, Int.reduceDiv, Int.reduceToNat, decide_true, decide_false, and_true, true_and, and_self, Option.some.injEq, addV, iaddV, subV, mulV, fdivV, modV, powV, negV, cmpV, isNonV, notNonV, eqV, neV, eqB, scEq, t1, t2, t3, t4, t5, t6, t7, t8, t9, t10, t11, t12, t13, t14, t15, t16]
  · have jl := List.mem_range.mp hj
    have ha : atI (ns.map PV.int) (0 + (j : Int) * 1) = some (.int (ns.getD j 0)) := atI_nat' (by omega) (by
      rw [show (0 + (j : Int) * 1).toNat = j by omega, List.getElem?_map, List.getElem?_eq_getElem jl, List.getD_eq_getElem?_getD, List.getElem?_eq_getElem jl]; rfl)
    simp only [b_L_trees_e2, seqS, ifS, setS, augS, dropS, retS, retN, nxS, bkS, ctS, asgS, subS, R.toS, R.bind, R.of, opF, unF, varF, cstF, chF, isB, asB, andT, orT, notT, andF, orF, notF, ifF, nilA, consA, tupF, lstF, cbF, callF, bmF', truT, truV, nameG, nilG, consG, tupG, List.set_cons_zero, List.set_cons_succ, List.getElem?_cons_zero, List.getElem?_cons_succ, Option.bind_some, Option.bind_none, Option.map_some, Option.map_none, List.length_cons, List.length_nil, List.cons_append, List.nil_append, List.append_nil, if_true, if_false, ite_true, ite_false, Bool.false_eq_true, reduceIte, reduceCtorEq, List.map_cons, List.map_nil, Nat.sub_self, List.replicate_succ, List.replicate_zero, Nat.reduceSub, Nat.reduceAdd, Nat.reduceLT, Nat.reduceLeDiff, Nat.reduceEqDiff, Nat.reduceMul, Nat.reducePow, Int.reduceLT, Int.reduceLE, Int.reduceAdd, Int.reduceMul, Int.reduceSub, Int.reduceNeg, Int.reduceEq, Int.reducePow, Int.reduceMod, Int.reduceDiv, Int.reduceToNat, decide_true, decide_false, and_true, true_and, and_self, Option.some.injEq, idxV, at0, at1, at2, at3, at4, at5, seqAt, lstAt, lenV, isiV, typV, kb1, kb2, kb3, kb4, kb5, kb6, kb7, kb8, kb9, kb10, kb11, ha]
    rfl
theorem cut32 (cs0 : List Int) : cutP (cs0.map PV.int) none (some 32) = (cs0.take 32).map PV.int := by
  unfold cutP
  rw [sIx_some (by decide), HT.sIx_none, List.map_take, List.drop_zero, Nat.sub_zero]
  show List.take (min 32 _) _ = List.take 32 _
  rcases Nat.le_total 32 (cs0.map PV.int).length with q | q
  · rw [Nat.min_eq_left q]
  · rw [Nat.min_eq_right q, List.take_of_length_le (Nat.le_refl _), List.take_of_length_le q]
theorem F_trees {ns : List Int} {st : Store} (hns : ns.length ≤ 63) : ∃ ts : List Tr, F_L_trees [.frz (ns.map PV.int), .int 20] st = .ok (.ref st.length) (st ++ [.lst (ts.map Tr.pv)]) ∧ Ok ts ∧ ts.length ≤ 32 ∧ ∀ t ∈ ts, t.depth ≤ 30 := by
  obtain ⟨cs0, lc⟩ := cells_ok (ns := ns) (st := st) hns
  have cut := cut32 cs0
  obtain ⟨cs, hcs⟩ : ∃ cs, cs = cs0.take 32 := ⟨_, rfl⟩
  have cl : cs.length ≤ 32 := by rw [hcs, List.length_take]; omega
  rw [← hcs] at cut
  obtain ⟨e', st', h1, h2⟩ := forL_inv (gd := [(st.length + 2, .lst (cs.map PV.int))]) (g := nameG 3) (b := b_L_trees_s8) (xs := cs.map PV.int)
    (fun i e s => ∃ (g : Store) (ws : List Rw) (c' a b d f h : Option PV), s = st ++ g ∧ e = [some (.frz (ns.map PV.int)), some (.int 20), some (.ref st.length), c', a, b, d, f, h, none, none, none, none] ∧ s[st.length]? = some (.lst (ws.map rowP)) ∧ Ok (fsts ws) ∧ (∀ q ∈ ws, q.1.depth ≤ 30) ∧ ws.length ≤ i ∧ s[st.length + 2]? = some (.lst (cs.map PV.int)))
    (e := [some (.frz (ns.map PV.int)), some (.int 20), some (.ref st.length), none, none, none, none, none, none, none, none, none, none]) (st := st ++ [.lst [], .lst (cs0.map PV.int), .lst (cs.map PV.int)])
    ⟨_, [], none, none, none, none, none, none, rfl, rfl, getS0, (fun u hu => by cases hu), (fun q hq => by cases hq), Nat.le_refl _, by rw [getS]; rfl⟩
    (fun i v e s hv hP => by
      obtain ⟨g, ws, c', a, b, d, f, h, rfl, rfl, hr, hT, hd, hn, hc⟩ := hP
      rw [List.getElem?_map] at hv
      obtain ⟨c, hc', rfl⟩ := Option.map_eq_some_iff.mp hv
      have il : i < cs.length := (List.getElem?_eq_some_iff.mp hc').1
      obtain ⟨ws', g', e', b1, ⟨x1, x2, x3, x4, x5, x6, rfl⟩, b3, b4, b5, b6, b7⟩ := step_trees (ns := ns) (c := c) (o4 := a) (o5 := b) (o6 := d) (o7 := f) (o8 := h) hr (Nat.le_refl _) hT hd (by omega)
      exact ⟨gd_one hc, _, rfl, _, _, b1, g', ws', _, _, _, _, _, _, rfl, rfl, b3, b4, b5, by omega, b7 _ _ (by omega) hc⟩) (fun e s hP => by
      obtain ⟨g, ws, c', a, b, d, f, h, rfl, rfl, hr, hT, hd, hn, hc⟩ := hP
      exact gd_one hc)
  obtain ⟨g, ws, c', a, b, d, f, h, rfl, rfl, hr, hT, hd, hn, hc⟩ := h2
  rw [List.length_map] at hn
  refine ⟨fsts ws, ?_, hT, by unfold fsts; rw [List.length_map]; omega, fun t ht => by
    obtain ⟨q, hq, rfl⟩ := List.mem_map.mp ht
    exact hd q hq⟩
  have l1 := lcE (i := 2) (k := 9) (fe := b_L_trees_e1) (e := [some (.frz (ns.map PV.int)), some (.int 20), some (.ref st.length), c', a, b, d, f, h, none, none, none, none]) (s := st ++ g) st.length ws rowP (fun q => q.1.pv) rfl hr (by omega) fun q _ acc => by simp only [b_L_trees_e1, rowP, wipeE, seqS, ifS, setS, augS, dropS, retS, retN, nxS, bkS, ctS, asgS, subS, R.toS, R.bind, R.of, opF, unF, varF, cstF, chF, isB, asB, andT, orT, notT, andF, orF, notF, ifF, nilA, consA, tupF, lstF, cbF, callF, bmF', truT, truV, nameG, nilG, consG, tupG, List.set_cons_zero, List.set_cons_succ, List.getElem?_cons_zero, List.getElem?_cons_succ, Option.bind_some, Option.bind_none, Option.map_some, Option.map_none, List.length_cons, List.length_nil, List.cons_append, List.nil_append, List.append_nil, if_true, if_false, ite_true, ite_false, Bool.false_eq_true, reduceIte, reduceCtorEq, List.map_cons, List.map_nil, Nat.sub_self, List.replicate_succ, List.replicate_zero, Nat.reduceSub, Nat.reduceAdd, Nat.reduceLT, Nat.reduceLeDiff, Nat.reduceEqDiff, Nat.reduceMul, Nat.reducePow, Int.reduceLT, Int.reduceLE, Int.reduceAdd, Int.reduceMul, Int.reduceSub, Int.reduceNeg, Int.reduceEq, Int.reducePow, Int.reduceMod, Int.reduceDiv, Int.reduceToNat, decide_true, decide_false, and_true, true_and, and_self, Option.some.injEq, idxV, at0, at1, at2, at3, at4, at5, seqAt, lstAt, lenV, isiV, typV, kb1, kb2, kb3, kb4, kb5, kb6, kb7, kb8, kb9, kb10, kb11]
  have pm : (ws.map fun q => q.1.pv) = (fsts ws).map Tr.pv := by simp [fsts]
  rw [pm] at l1
  unfold F_L_trees
  refine run_new (g := g ++ [.lst ((fsts ws).map Tr.pv)]) (r := (st ++ g).length) ?_ (by rw [← appS, getS0]; rfl) (by simp) (by
    simp only [objOk]
    exact pures_refs _ (pures_iff.mpr fun x hx => by
      obtain ⟨z, _, rfl⟩ := List.mem_map.mp hx
      exact FL.pv_pure z))
  unfold b_L_trees
  show seqS _ _ [some (.frz (ns.map PV.int)), some (.int 20), none, none, none, none, none, none, none, none, none, none, none] st = _
  refine (seqS_nx (e1 := [some (.frz (ns.map PV.int)), some (.int 20), some (.ref st.length), none, none, none, none, none, none, none, none, none, none]) (s1 := st ++ [.lst []]) (by simp only [seqS, ifS, setS, augS, dropS, retS, retN, nxS, bkS, ctS, asgS, subS, R.toS, R.bind, R.of, opF, unF, varF, cstF, chF, isB, asB, andT, orT, notT, andF, orF, notF, ifF, nilA, consA, tupF, lstF, cbF, callF, bmF', truT, truV, nameG, nilG, consG, tupG, List.set_cons_zero, List.set_cons_succ, List.getElem?_cons_zero, List.getElem?_cons_succ, Option.bind_some, Option.bind_none, Option.map_some, Option.map_none, List.length_cons, List.length_nil, List.cons_append, List.nil_append, List.append_nil, if_true, if_false, ite_true, ite_false, Bool.false_eq_true, reduceIte, reduceCtorEq, List.map_cons, List.map_nil, Nat.sub_self, List.replicate_succ, List.replicate_zero, Nat.reduceSub, Nat.reduceAdd, Nat.reduceLT, Nat.reduceLeDiff, Nat.reduceEqDiff, Nat.reduceMul, Nat.reducePow, Int.reduceLT, Int.reduceLE, Int.reduceAdd, Int.reduceMul, Int.reduceSub, Int.reduceNeg, Int.reduceEq, Int.reducePow, Int.reduceMod, Int.reduceDiv, Int.reduceToNat, decide_true, decide_false, and_true, true_and, and_self, Option.some.injEq, sizeLine_eq])).trans ?_
  have hi : seqI (sliF (lcF (rng1I (consA (cbF lenV (consA (varF 0) nilA)) nilA)) [10] (nameG 10) b_L_trees_t3 b_L_trees_e2) noO (someO (cstF (.int 32)))) [some (.frz (ns.map PV.int)), some (.int 20), some (.ref st.length), none, none, none, none, none, none, none, none, none, none] (st ++ [.lst []]) = .ok ⟨cs.map PV.int, [(st.length + 2, .lst (cs.map PV.int))]⟩ (st ++ [.lst [], .lst (cs0.map PV.int), .lst (cs.map PV.int)]) := by
    unfold seqI sliF
    rw [lc, bind_ok]
    simp only [noO, someO, asI, slV, seqS, ifS, setS, augS, dropS, retS, retN, nxS, bkS, ctS, asgS, subS, R.toS, R.bind, R.of, opF, unF, varF, cstF, chF, isB, asB, andT, orT, notT, andF, orF, notF, ifF, nilA, consA, tupF, lstF, cbF, callF, bmF', truT, truV, nameG, nilG, consG, tupG, List.set_cons_zero, List.set_cons_succ, List.getElem?_cons_zero, List.getElem?_cons_succ, Option.bind_some, Option.bind_none, Option.map_some, Option.map_none, List.length_cons, List.length_nil, List.cons_append, List.nil_append, List.append_nil, if_true, if_false, ite_true, ite_false, Bool.false_eq_true, reduceIte, reduceCtorEq, List.map_cons, List.map_nil, Nat.sub_self, List.replicate_succ, List.replicate_zero, Nat.reduceSub, Nat.reduceAdd, Nat.reduceLT, Nat.reduceLeDiff, Nat.reduceEqDiff, Nat.reduceMul, Nat.reducePow, Int.reduceLT, Int.reduceLE, Int.reduceAdd, Int.reduceMul, Int.reduceSub, Int.reduceNeg, Int.reduceEq, Int.reducePow, Int.reduceMod, Int.reduceDiv, Int.reduceToNat, decide_true, decide_false, and_true, true_and, and_self, Option.some.injEq, lstAt, seqAt, appS, lenS, getS, cut, gdOf]
  refine (seqS_nx (e1 := [some (.frz (ns.map PV.int)), some (.int 20), some (.ref st.length), c', a, b, d, f, h, none, none, none, none]) (s1 := st ++ g) ?_).trans ?_
  · unfold forS
    rw [hi, toS_ok]
    exact h1
  · simp only [seqS, ifS, setS, augS, dropS, retS, retN, nxS, bkS, ctS, asgS, subS, R.toS, R.bind, R.of, opF, unF, varF, cstF, chF, isB, asB, andT, orT, notT, andF, orF, notF, ifF, nilA, consA, tupF, lstF, cbF, callF, bmF', truT, truV, nameG, nilG, consG, tupG, List.set_cons_zero, List.set_cons_succ, List.getElem?_cons_zero, List.getElem?_cons_succ, Option.bind_some, Option.bind_none, Option.map_some, Option.map_none, List.length_cons, List.length_nil, List.cons_append, List.nil_append, List.append_nil, if_true, if_false, ite_true, ite_false, Bool.false_eq_true, reduceIte, reduceCtorEq, List.map_cons, List.map_nil, Nat.sub_self, List.replicate_succ, List.replicate_zero, Nat.reduceSub, Nat.reduceAdd, Nat.reduceLT, Nat.reduceLeDiff, Nat.reduceEqDiff, Nat.reduceMul, Nat.reducePow, Int.reduceLT, Int.reduceLE, Int.reduceAdd, Int.reduceMul, Int.reduceSub, Int.reduceNeg, Int.reduceEq, Int.reducePow, Int.reduceMod, Int.reduceDiv, Int.reduceToNat, decide_true, decide_false, and_true, true_and, and_self, Option.some.injEq, l1, appS]
/-! ### the law -/
theorem F_same {v : PV} {st : Store} (hv : v = .non ∨ ∃ i, v = .int i) : F_L_same [v, v] st = .ok (.bl true) st := by
  unfold F_L_same
  refine run_rt0 ?_ rfl
  rcases hv with rfl | ⟨i, rfl⟩
  · simp only [b_L_same, seqS, ifS, setS, augS, dropS, retS, retN, nxS, bkS, ctS, asgS, subS, R.toS, R.bind, R.of, opF, unF, varF, cstF, chF, isB, asB, andT, orT, notT, andF, orF, notF, ifF, nilA, consA, tupF, lstF, cbF, callF, bmF', truT, truV, nameG, nilG, consG, tupG, List.set_cons_zero, List.set_cons_succ, List.getElem?_cons_zero, List.getElem?_cons_succ, Option.bind_some, Option.bind_none, Option.map_some, Option.map_none, List.length_cons, List.length_nil, List.cons_append, List.nil_append, List.append_nil, if_true, if_false, ite_true, ite_false, Bool.false_eq_true, reduceIte, reduceCtorEq, List.map_cons, List.map_nil, Nat.sub_self, List.replicate_succ, List.replicate_zero, Nat.reduceSub, Nat.reduceAdd, Nat.reduceLT, Nat.reduceLeDiff, Nat.reduceEqDiff, Nat.reduceMul, Nat.reducePow, Int.reduceLT, Int.reduceLE, Int.reduceAdd, Int.reduceMul, Int.reduceSub, Int.reduceNeg, Int.reduceEq, Int.reducePow, Int.reduceMod, Int.reduceDiv, Int.reduceToNat, decide_true, decide_false, and_true, true_and, and_self, Option.some.injEq, addV, iaddV, subV, mulV, fdivV, modV, powV, negV, cmpV, isNonV, notNonV]
  · simp only [b_L_same, seqS, ifS, setS, augS, dropS, retS, retN, nxS, bkS, ctS, asgS, subS, R.toS, R.bind, R.of, opF, unF, varF, cstF, chF, isB, asB, andT, orT, notT, andF, orF, notF, ifF, nilA, consA, tupF, lstF, cbF, callF, bmF', truT, truV, nameG, nilG, consG, tupG, List.set_cons_zero, List.set_cons_succ, List.getElem?_cons_zero, List.getElem?_cons_succ, Option.bind_some, Option.bind_none, Option.map_some, Option.map_none, List.length_cons, List.length_nil, List.cons_append, List.nil_append, List.append_nil, if_true, if_false, ite_true, ite_false, Bool.false_eq_true, reduceIte, reduceCtorEq, List.map_cons, List.map_nil, Nat.sub_self, List.replicate_succ, List.replicate_zero, Nat.reduceSub, Nat.reduceAdd, Nat.reduceLT, Nat.reduceLeDiff, Nat.reduceEqDiff, Nat.reduceMul, Nat.reducePow, Int.reduceLT, Int.reduceLE, Int.reduceAdd, Int.reduceMul, Int.reduceSub, Int.reduceNeg, Int.reduceEq, Int.reducePow, Int.reduceMod, Int.reduceDiv, Int.reduceToNat, decide_true, decide_false, and_true, true_and, and_self, Option.some.injEq, addV, iaddV, subV, mulV, fdivV, modV, powV, negV, cmpV, isNonV, notNonV, eqV, neV, eqB, scEq, t1, t2, t3, t4, t5, t6, t7, t8, t9, t10, t11, t12, t13, t14, t15, t16, idxV, at0, at1, at2, at3, at4, at5, seqAt, lstAt, lenV, isiV, typV, kb1, kb2, kb3, kb4, kb5, kb6, kb7, kb8, kb9, kb10, kb11, Bool.not_false]
theorem pos_kind (us : List Tr) (x : Tr) : pos us x = .non ∨ ∃ i, pos us x = .int i := by
  unfold pos
  split
  · exact .inr ⟨_, rfl⟩
  · exact .inl rfl
theorem ne_rows {p r : Nat} {us : List Tr} {s : Store} (hU : Ok us) (hp : s[p]? = some (.lst (rows us))) (hr : s[r]? = some (.lst (rows us))) : neV (.ref p) (.ref r) s = some (.bl false, s) := by
  have hds : toDs (toD 63 s) (rows us) = some ((us.map (enc us)).map dT) := by
    have : ∀ l : List Tr, (∀ u ∈ l, Fit us u) → toDs (toD 63 s) ((l.map (enc us)).map Tm.Tm.pv) = some ((l.map (enc us)).map dT) := fun l => by
      induction l with
      | nil => intro _; rfl
      | cons a q ih =>
        intro h
        have h1 := toD_T (k := 60) (s := s) (enc_good (h a List.mem_cons_self))
        have h2 := ih fun u hu => h u (List.mem_cons_of_mem _ hu)
        simp only [List.map_cons, toDs]
        rw [h1, h2]
    exact this us hU
  have e1 : ∀ k, s[k]? = some (.lst (rows us)) → toD 64 s (.ref k) = some (.list ((us.map (enc us)).map dT)) := fun k h => by
    show (match s[k]? with
      | some (.lst xs) => (toDs (toD 63 s) xs).map PyData.list
      | _ => none) = _
    rw [h]
    show (toDs (toD 63 s) (rows us)).map PyData.list = _
    rw [hds]
    rfl
  have refl : ∀ l : List T, PyData.eqvAll (l.map dT) (l.map dT) = true := fun l => by
    induction l with
    | nil => rfl
    | cons a q ih =>
      show (PyData.eqv (dT a) (dT a) && PyData.eqvAll (q.map dT) (q.map dT)) = true
      rw [ih, eqv_T]
      simp
  unfold neV eqB
  rw [show scEq (.ref p) (.ref r) = none from rfl]
  simp only [e1 p hp, e1 r hr]
  show some (PV.bl (!PyData.eqvAll ((us.map (enc us)).map dT) ((us.map (enc us)).map dT)), s) = _
  rw [refl]
  rfl
def bankO (p : Nat) : PO := .ins "Bank" [("room", .int 400), ("terms", .ref p)]
theorem F_init {s : Store} : F_Bank___init__ [.ref s.length, .int 400] (s ++ [.ins "Bank" []]) = .ok .non (s ++ [bankO (s.length + 1), .lst []]) := by
  have p1 : putP "room" (.int 400) [] = [(("room" : Str), PV.int 400)] := rfl
  have p2 : putP "terms" (PV.ref (s.length + 1)) [(("room" : Str), PV.int 400)] = [(("room" : Str), PV.int 400), (("terms" : Str), PV.ref (s.length + 1))] := by
    have e : ¬ (("room" : Str) = "terms") := by decide +kernel
    simp only [putP, e, if_false]
  have l0 : (0 : Nat) < 1000 := by decide
  have l1 : (1 : Nat) < 1000 := by decide
  have body : b_Bank___init__ [some (.ref s.length), some (.int 400)] (s ++ [.ins "Bank" []]) = .nx [some (.ref s.length), some (.int 400)] (s ++ [bankO (s.length + 1), .lst []]) := by
    simp only [b_Bank___init__, sfldS, seqS, ifS, setS, augS, dropS, retS, retN, nxS, bkS, ctS, asgS, subS, R.toS, R.bind, R.of, opF, unF, varF, cstF, chF, isB, asB, andT, orT, notT, andF, orF, notF, ifF, nilA, consA, tupF, lstF, cbF, callF, bmF', truT, truV, nameG, nilG, consG, tupG, List.set_cons_zero, List.set_cons_succ, List.getElem?_cons_zero, List.getElem?_cons_succ, Option.bind_some, Option.bind_none, Option.map_some, Option.map_none, List.length_cons, List.length_nil, List.cons_append, List.nil_append, List.append_nil, if_true, if_false, ite_true, ite_false, Bool.false_eq_true, reduceIte, reduceCtorEq, List.map_cons, List.map_nil, Nat.sub_self, List.replicate_succ, List.replicate_zero, Nat.reduceSub, Nat.reduceAdd, Nat.reduceLT, Nat.reduceLeDiff, Nat.reduceEqDiff, Nat.reduceMul, Nat.reducePow, Int.reduceLT, Int.reduceLE, Int.reduceAdd, Int.reduceMul, Int.reduceSub, Int.reduceNeg, Int.reduceEq, Int.reducePow, Int.reduceMod, Int.reduceDiv, Int.reduceToNat, decide_true, decide_false, and_true, true_and, and_self, Option.some.injEq, getS0, l0, p1, setS0_app, sizeLine_eq, lenS, appS, p2, l1, bankO]
  unfold F_Bank___init__ runFn
  show (match b_Bank___init__ [some (.ref s.length), some (.int 400)] (s ++ [PO.ins "Bank" []]) with
    | .nx _ s1 => gc (s ++ [PO.ins "Bank" []]) .non s1
    | .rt v s1 => gc (s ++ [PO.ins "Bank" []]) v s1
    | .er x _ s1 => gcx (s ++ [PO.ins "Bank" []]) x s1
    | _ => .no) = _
  rw [body]
  simp only
  unfold gc
  rw [if_neg]
  intro h
  have := h.2 s.length (by simp)
  have e1 : (s ++ [bankO (s.length + 1), PO.lst []])[s.length]? = some (bankO (s.length + 1)) := by rw [getS0]; rfl
  have e2 : (s ++ [PO.ins "Bank" []])[s.length]? = some (PO.ins "Bank" []) := by rw [getS0]; rfl
  rw [e1, e2] at this
  rcases this with h | ⟨o, h, k⟩
  · simp [bankO] at h
  · cases h
    simp [bankO, objOk, refsOks, refsOk] at k
theorem F_put {ts us : List Tr} (hT : Ok ts) (hl : ts.length ≤ 300) {n p : Nat} {x : Tr} {s : Store} (hB : BankAt s n p us) (hU : Ok us) (hs : ∀ u ∈ us, u ∈ ts) (hn : us.Nodup) (hm : x ∈ ts) (hd : x.depth ≤ 32) : F_Bank_put [.ref n, x.pv, .non] s = .ok (.int (ix (putT us x) x)) (s.set p (.lst (rows (putT us x)))) := by
  have h := F_put_part hT hl 32 us x s hB hU hs hn hm hd
  have n1 : List.lookup ("put_part" : Str) [(("room" : Str), PV.int 400), ("terms", .ref p)] = none := fl3 "put_part" (by decide +kernel) (by decide +kernel)
  unfold F_Bank_put
  refine run_set (g := []) ?_ rfl hB.lt (rows_ok _ _)
  rw [List.append_nil]
  simp only [b_Bank_put, thruS, methF, fldF, seqS, ifS, setS, augS, dropS, retS, retN, nxS, bkS, ctS, asgS, subS, R.toS, R.bind, R.of, opF, unF, varF, cstF, chF, isB, asB, andT, orT, notT, andF, orF, notF, ifF, nilA, consA, tupF, lstF, cbF, callF, bmF', truT, truV, nameG, nilG, consG, tupG, List.set_cons_zero, List.set_cons_succ, List.getElem?_cons_zero, List.getElem?_cons_succ, Option.bind_some, Option.bind_none, Option.map_some, Option.map_none, List.length_cons, List.length_nil, List.cons_append, List.nil_append, List.append_nil, if_true, if_false, ite_true, ite_false, Bool.false_eq_true, reduceIte, reduceCtorEq, List.map_cons, List.map_nil, Nat.sub_self, List.replicate_succ, List.replicate_zero, Nat.reduceSub, Nat.reduceAdd, Nat.reduceLT, Nat.reduceLeDiff, Nat.reduceEqDiff, Nat.reduceMul, Nat.reducePow, Int.reduceLT, Int.reduceLE, Int.reduceAdd, Int.reduceMul, Int.reduceSub, Int.reduceNeg, Int.reduceEq, Int.reducePow, Int.reduceMod, Int.reduceDiv, Int.reduceToNat, decide_true, decide_false, and_true, true_and, and_self, Option.some.injEq, idxV, at0, at1, at2, at3, at4, at5, seqAt, lstAt, lenV, isiV, typV, kb1, kb2, kb3, kb4, kb5, kb6, kb7, kb8, kb9, kb10, kb11, hB.1, hB.2, fl1, n1, h]
theorem ex_nx {f g : FS} {e e1 : Env} {s s1 : Store} {v : PV} (h : f e s = .nx e1 s1) (k : ∃ z, g e1 s1 = .rt v z) : ∃ z, seqS f g e s = .rt v z := by
  obtain ⟨z, hz⟩ := k
  exact ⟨z, (seqS_nx h).trans hz⟩
/-- one turn of the law's loop -/
theorem turn {ns : List Int} {ts us : List Tr} {q L i : Nat} {s1 : Store} {o5 o6 : Option PV} (hT : Ok ts) (hl : ts.length ≤ 32) (hd : ∀ t ∈ ts, t.depth ≤ 30) (hq : s1[q]? = some (.lst (ts.map Tr.pv))) (hL : L = s1.length) (hi : i < ts.length)
    (hU : Ok us) (hs : ∀ u ∈ us, u ∈ ts) (hn : us.Nodup) : ∃ us' o5' o6', b_law_k11_s1 [some (.frz (ns.map PV.int)), some (.ref q), some (.ref L), some (.ref (L + 2)), some (.int (0 + (i : Nat) * 1)), o5, o6] (s1 ++ [bankO (L + 1), .lst (rows us), .lst (rows us)]) =
      .nx [some (.frz (ns.map PV.int)), some (.ref q), some (.ref L), some (.ref (L + 2)), some (.int (0 + (i : Nat) * 1)), o5', o6'] (s1 ++ [bankO (L + 1), .lst (rows us'), .lst (rows us')]) ∧ Ok us' ∧ (∀ u ∈ us', u ∈ ts) ∧ us'.Nodup := by
  subst hL
  obtain ⟨x, hx⟩ : ∃ x, ts[i]? = some x := ⟨_, List.getElem?_eq_getElem hi⟩
  have xm := List.mem_of_getElem? hx
  have zi := md (ns.getD (2 * (0 + (i : Int) * 1)).toNat 0 + (0 + (i : Int) * 1) * (0 + (i : Int) * 1)) (ts.length : Int) (by omega)
  obtain ⟨j, hj⟩ : ∃ j, j = (ns.getD (2 * (0 + (i : Int) * 1)).toNat 0 + (0 + (i : Int) * 1) * (0 + (i : Int) * 1)) % (ts.length : Int) := ⟨_, rfl⟩
  rw [← hj] at zi
  obtain ⟨y, hy⟩ : ∃ y, ts[j.toNat]? = some y := ⟨_, List.getElem?_eq_getElem (by omega)⟩
  have ym := List.mem_of_getElem? hy
  have ax : atI (ts.map Tr.pv) (0 + (i : Int) * 1) = some x.pv := atI_nat' (by omega) (by rw [show (0 + (i : Int) * 1).toNat = i by omega, List.getElem?_map, hx]; rfl)
  have ay : atI (ts.map Tr.pv) j = some y.pv := atI_nat' zi.1 (by rw [List.getElem?_map, hy]; rfl)
  obtain ⟨k1, k2⟩ := put_step hT us x hU hs hn xm
  obtain ⟨vs, hvs⟩ : ∃ vs, vs = putT us x := ⟨_, rfl⟩
  have hlp := fun s hB => F_lput hT (by omega) (r := s1.length + 2) 32 us x s hB hU hs hn xm (by have := hd x xm; omega)
  have hbp := fun s hB => F_put hT (by omega) (n := s1.length) (p := s1.length + 1) (s := s) hB hU hs hn xm (by have := hd x xm; omega)
  rw [← hvs] at k1 k2
  simp only [← hvs] at hlp hbp
  have ul := nd_len hn hs
  have vl := nd_len k1.nd k1.sub
  obtain ⟨A, hA⟩ : ∃ A : Store, A = s1 ++ [bankO (s1.length + 1), .lst (rows us), .lst (rows us)] := ⟨_, rfl⟩
  obtain ⟨B, hB⟩ : ∃ B : Store, B = s1 ++ [bankO (s1.length + 1), .lst (rows us), .lst (rows vs)] := ⟨_, rfl⟩
  obtain ⟨C, hC⟩ : ∃ C : Store, C = s1 ++ [bankO (s1.length + 1), .lst (rows vs), .lst (rows vs)] := ⟨_, rfl⟩
  have bat : ∀ us vs, BankAt (s1 ++ [bankO (s1.length + 1), .lst (rows us), .lst (rows vs)]) s1.length (s1.length + 1) us := fun us vs => ⟨by rw [getS0]; rfl, by rw [getS]; rfl⟩
  have rat : ∀ us vs, (s1 ++ [bankO (s1.length + 1), PO.lst (rows us), PO.lst (rows vs)])[s1.length + 2]? = some (.lst (rows vs)) := fun us vs => by rw [getS]; rfl
  have hAB : A.set (s1.length + 2) (.lst (rows vs)) = B := by rw [hA, setS_app, hB]; rfl
  have hBC : B.set (s1.length + 1) (.lst (rows vs)) = C := by rw [hB, setS_app, hC]; rfl
  have bA : BankAt A s1.length (s1.length + 1) us := by rw [hA]; exact bat _ _
  have bB : BankAt B s1.length (s1.length + 1) us := by rw [hB]; exact bat _ _
  have bC : BankAt C s1.length (s1.length + 1) vs := by rw [hC]; exact bat _ _
  have rA : A[s1.length + 2]? = some (.lst (rows us)) := by rw [hA]; exact rat _ _
  have rC : C[s1.length + 2]? = some (.lst (rows vs)) := by rw [hC]; exact rat _ _
  have qA : A[q]? = some (.lst (ts.map Tr.pv)) := by rw [hA]; exact getOld hq
  have qB : B[q]? = some (.lst (ts.map Tr.pv)) := by rw [hB]; exact getOld hq
  have qC : C[q]? = some (.lst (ts.map Tr.pv)) := by rw [hC]; exact getOld hq
  have dx := hd x xm
  have dy := hd y ym
  have f1 := F_find hT hU 32 y A bA ym (by omega)
  have f2 := F_lfind hT hU (by omega) 32 y A rA ym (by omega)
  have f3 := F_find hT hU 32 x A bA xm (by omega)
  have f4 := F_lfind hT hU (by omega) 32 x A rA xm (by omega)
  have f5 := hlp A rA
  have f6 := hbp B bB
  rw [hAB] at f5
  rw [hBC] at f6
  have f7 := F_find hT k1.ok 32 x C bC xm (by omega)
  have f8 := F_find hT k1.ok 32 y C bC ym (by omega)
  have f9 := F_lfind hT k1.ok (by omega) 32 y C rC ym (by omega)
  have px : pos vs x = .int (ix vs x) := by unfold pos; rw [if_pos k2]
  rw [px] at f7
  have s1' := F_same (v := pos us y) (st := A) (pos_kind _ _)
  have s2' := F_same (v := pos us x) (st := A) (pos_kind _ _)
  have s3' := F_same (v := .int (ix vs x)) (st := C) (.inr ⟨_, rfl⟩)
  have s4' := F_same (v := pos vs y) (st := C) (pos_kind _ _)
  have nr := ne_rows k1.ok bC.2 rC
  have n1 : List.lookup ("find" : Str) [(("room" : Str), PV.int 400), ("terms", .ref (s1.length + 1))] = none := fl3 "find" (by decide +kernel) (by decide +kernel)
  have n2 : List.lookup ("put" : Str) [(("room" : Str), PV.int 400), ("terms", .ref (s1.length + 1))] = none := fl3 "put" (by decide +kernel) (by decide +kernel)
  have a1 := F_at (ns := ns) (k := 2 * (0 + (i : Int) * 1)) (st := A) (by omega)
  have a2 := F_at (ns := ns) (k := 1) (st := A) (by omega)
  have mk1 : mulOk 2 (0 + (i : Int) * 1) = true := mulOk_of (by decide) (by omega)
  have mk2 : mulOk (0 + (i : Int) * 1) (0 + (i : Int) * 1) = true := mulOk_of (by omega) (by omega)
  have lp : (0 : Int) < (ts.length : Int) := by omega
  refine ⟨vs, some y.pv, some (.int (ix vs x)), ?_, k1.ok, k1.sub, k1.nd⟩
  rw [← hA, ← hC]
  unfold b_law_k11_s1
  refine (seqS_nx (e1 := [some (.frz (ns.map PV.int)), some (.ref q), some (.ref s1.length), some (.ref (s1.length + 2)), some (.int (0 + (i : Nat) * 1)), some y.pv, o6]) (s1 := A) (by simp only [seqS, ifS, setS, augS, dropS, retS, retN, nxS, bkS, ctS, asgS, subS, R.toS, R.bind, R.of, opF, unF, varF, cstF, chF, isB, asB, andT, orT, notT, andF, orF, notF, ifF, nilA, consA, tupF, lstF, cbF, callF, bmF', truT, truV, nameG, nilG, consG, tupG, List.set_cons_zero, List.set_cons_succ, List.getElem?_cons_zero, List.getElem?_cons_succ, Option.bind_some, Option.bind_none, Option.map_some, Option.map_none, List.length_cons, List.length_nil, List.cons_append, List.nil_append, List.append_nil, if_true, if_false, ite_true, ite_false, Bool.false_eq_true, reduceIte, reduceCtorEq, List.map_cons, List.map_nil, Nat.sub_self, List.replicate_succ, List.replicate_zero, Nat.reduceSub, Nat.reduceAdd, Nat.reduceLT, Nat.reduceLeDiff, Nat.reduceEqDiff, Nat.reduceMul, Nat.reducePow, Int.reduceLT, Int.reduceLE, Int.reduceAdd, Int.reduceMul, Int.reduceSub, Int.reduceNeg, Int.reduceEq, Int.reducePow, Int.reduceMod, Int.reduceDiv, Int.reduceToNat, decide_true, decide_false, and_true, true_and, and_self, Option.some.injEq, addV, iaddV, subV, mulV, fdivV, modV, powV, negV, cmpV, isNonV, notNonV, idxV, at0, at1, at2, at3, at4, at5, seqAt, lstAt, lenV, isiV, typV, kb1, kb2, kb3, kb4, kb5, kb6, kb7, kb8, kb9, kb10, kb11, qA, mk1, mk2, a1, List.length_map, lp, ← hj, ay])).trans ?_
  refine (seqS_nx (e1 := [some (.frz (ns.map PV.int)), some (.ref q), some (.ref s1.length), some (.ref (s1.length + 2)), some (.int (0 + (i : Nat) * 1)), some y.pv, o6]) (s1 := A) ?_).trans ?_
  · by_cases e : ns.getD (1 : Int).toNat 0 % 2 = 0
    · simp only [methF, seqS, ifS, setS, augS, dropS, retS, retN, nxS, bkS, ctS, asgS, subS, R.toS, R.bind, R.of, opF, unF, varF, cstF, chF, isB, asB, andT, orT, notT, andF, orF, notF, ifF, nilA, consA, tupF, lstF, cbF, callF, bmF', truT, truV, nameG, nilG, consG, tupG, List.set_cons_zero, List.set_cons_succ, List.getElem?_cons_zero, List.getElem?_cons_succ, Option.bind_some, Option.bind_none, Option.map_some, Option.map_none, List.length_cons, List.length_nil, List.cons_append, List.nil_append, List.append_nil, if_true, if_false, ite_true, ite_false, Bool.false_eq_true, reduceIte, reduceCtorEq, List.map_cons, List.map_nil, Nat.sub_self, List.replicate_succ, List.replicate_zero, Nat.reduceSub, Nat.reduceAdd, Nat.reduceLT, Nat.reduceLeDiff, Nat.reduceEqDiff, Nat.reduceMul, Nat.reducePow, Int.reduceLT, Int.reduceLE, Int.reduceAdd, Int.reduceMul, Int.reduceSub, Int.reduceNeg, Int.reduceEq, Int.reducePow, Int.reduceMod, Int.reduceDiv, Int.reduceToNat, decide_true, decide_false, and_true, true_and, and_self, Option.some.injEq, addV, iaddV, subV, mulV, fdivV, modV, powV, negV, cmpV, isNonV, notNonV, eqV, neV, eqB, scEq, t1, t2, t3, t4, t5, t6, t7, t8, t9, t10, t11, t12, t13, t14, t15, t16, a2, e, bA.1, n1, f1, f2, s1', Bool.not_true] at e ⊢
    · simp only [methF, seqS, ifS, setS, augS, dropS, retS, retN, nxS, bkS, ctS, asgS, subS, R.toS, R.bind, R.of, opF, unF, varF, cstF, chF, isB, asB, andT, orT, notT, andF, orF, notF, ifF, nilA, consA, tupF, lstF, cbF, callF, bmF', truT, truV, nameG, nilG, consG, tupG, List.set_cons_zero, List.set_cons_succ, List.getElem?_cons_zero, List.getElem?_cons_succ, Option.bind_some, Option.bind_none, Option.map_some, Option.map_none, List.length_cons, List.length_nil, List.cons_append, List.nil_append, List.append_nil, if_true, if_false, ite_true, ite_false, Bool.false_eq_true, reduceIte, reduceCtorEq, List.map_cons, List.map_nil, Nat.sub_self, List.replicate_succ, List.replicate_zero, Nat.reduceSub, Nat.reduceAdd, Nat.reduceLT, Nat.reduceLeDiff, Nat.reduceEqDiff, Nat.reduceMul, Nat.reducePow, Int.reduceLT, Int.reduceLE, Int.reduceAdd, Int.reduceMul, Int.reduceSub, Int.reduceNeg, Int.reduceEq, Int.reducePow, Int.reduceMod, Int.reduceDiv, Int.reduceToNat, decide_true, decide_false, and_true, true_and, and_self, Option.some.injEq, addV, iaddV, subV, mulV, fdivV, modV, powV, negV, cmpV, isNonV, notNonV, eqV, neV, eqB, scEq, t1, t2, t3, t4, t5, t6, t7, t8, t9, t10, t11, t12, t13, t14, t15, t16, a2, e] at e ⊢
      simp only [e, seqS, ifS, setS, augS, dropS, retS, retN, nxS, bkS, ctS, asgS, subS, R.toS, R.bind, R.of, opF, unF, varF, cstF, chF, isB, asB, andT, orT, notT, andF, orF, notF, ifF, nilA, consA, tupF, lstF, cbF, callF, bmF', truT, truV, nameG, nilG, consG, tupG, List.set_cons_zero, List.set_cons_succ, List.getElem?_cons_zero, List.getElem?_cons_succ, Option.bind_some, Option.bind_none, Option.map_some, Option.map_none, List.length_cons, List.length_nil, List.cons_append, List.nil_append, List.append_nil, if_true, if_false, ite_true, ite_false, Bool.false_eq_true, reduceIte, reduceCtorEq, List.map_cons, List.map_nil, Nat.sub_self, List.replicate_succ, List.replicate_zero, Nat.reduceSub, Nat.reduceAdd, Nat.reduceLT, Nat.reduceLeDiff, Nat.reduceEqDiff, Nat.reduceMul, Nat.reducePow, Int.reduceLT, Int.reduceLE, Int.reduceAdd, Int.reduceMul, Int.reduceSub, Int.reduceNeg, Int.reduceEq, Int.reducePow, Int.reduceMod, Int.reduceDiv, Int.reduceToNat, decide_true, decide_false, and_true, true_and, and_self, Option.some.injEq]
  refine (seqS_nx (e1 := [some (.frz (ns.map PV.int)), some (.ref q), some (.ref s1.length), some (.ref (s1.length + 2)), some (.int (0 + (i : Nat) * 1)), some y.pv, o6]) (s1 := A) (by simp only [methF, seqS, ifS, setS, augS, dropS, retS, retN, nxS, bkS, ctS, asgS, subS, R.toS, R.bind, R.of, opF, unF, varF, cstF, chF, isB, asB, andT, orT, notT, andF, orF, notF, ifF, nilA, consA, tupF, lstF, cbF, callF, bmF', truT, truV, nameG, nilG, consG, tupG, List.set_cons_zero, List.set_cons_succ, List.getElem?_cons_zero, List.getElem?_cons_succ, Option.bind_some, Option.bind_none, Option.map_some, Option.map_none, List.length_cons, List.length_nil, List.cons_append, List.nil_append, List.append_nil, if_true, if_false, ite_true, ite_false, Bool.false_eq_true, reduceIte, reduceCtorEq, List.map_cons, List.map_nil, Nat.sub_self, List.replicate_succ, List.replicate_zero, Nat.reduceSub, Nat.reduceAdd, Nat.reduceLT, Nat.reduceLeDiff, Nat.reduceEqDiff, Nat.reduceMul, Nat.reducePow, Int.reduceLT, Int.reduceLE, Int.reduceAdd, Int.reduceMul, Int.reduceSub, Int.reduceNeg, Int.reduceEq, Int.reducePow, Int.reduceMod, Int.reduceDiv, Int.reduceToNat, decide_true, decide_false, and_true, true_and, and_self, Option.some.injEq, addV, iaddV, subV, mulV, fdivV, modV, powV, negV, cmpV, isNonV, notNonV, idxV, at0, at1, at2, at3, at4, at5, seqAt, lstAt, lenV, isiV, typV, kb1, kb2, kb3, kb4, kb5, kb6, kb7, kb8, kb9, kb10, kb11, qA, ax, bA.1, n1, f3, f4, s2', Bool.not_true])).trans ?_
  refine (seqS_nx (e1 := [some (.frz (ns.map PV.int)), some (.ref q), some (.ref s1.length), some (.ref (s1.length + 2)), some (.int (0 + (i : Nat) * 1)), some y.pv, some (.int (ix vs x))]) (s1 := B) (by simp only [seqS, ifS, setS, augS, dropS, retS, retN, nxS, bkS, ctS, asgS, subS, R.toS, R.bind, R.of, opF, unF, varF, cstF, chF, isB, asB, andT, orT, notT, andF, orF, notF, ifF, nilA, consA, tupF, lstF, cbF, callF, bmF', truT, truV, nameG, nilG, consG, tupG, List.set_cons_zero, List.set_cons_succ, List.getElem?_cons_zero, List.getElem?_cons_succ, Option.bind_some, Option.bind_none, Option.map_some, Option.map_none, List.length_cons, List.length_nil, List.cons_append, List.nil_append, List.append_nil, if_true, if_false, ite_true, ite_false, Bool.false_eq_true, reduceIte, reduceCtorEq, List.map_cons, List.map_nil, Nat.sub_self, List.replicate_succ, List.replicate_zero, Nat.reduceSub, Nat.reduceAdd, Nat.reduceLT, Nat.reduceLeDiff, Nat.reduceEqDiff, Nat.reduceMul, Nat.reducePow, Int.reduceLT, Int.reduceLE, Int.reduceAdd, Int.reduceMul, Int.reduceSub, Int.reduceNeg, Int.reduceEq, Int.reducePow, Int.reduceMod, Int.reduceDiv, Int.reduceToNat, decide_true, decide_false, and_true, true_and, and_self, Option.some.injEq, idxV, at0, at1, at2, at3, at4, at5, seqAt, lstAt, lenV, isiV, typV, kb1, kb2, kb3, kb4, kb5, kb6, kb7, kb8, kb9, kb10, kb11, qA, ax, f5])).trans ?_
  refine (seqS_nx (e1 := [some (.frz (ns.map PV.int)), some (.ref q), some (.ref s1.length), some (.ref (s1.length + 2)), some (.int (0 + (i : Nat) * 1)), some y.pv, some (.int (ix vs x))]) (s1 := C) (by simp only [methF, fldF, seqS, ifS, setS, augS, dropS, retS, retN, nxS, bkS, ctS, asgS, subS, R.toS, R.bind, R.of, opF, unF, varF, cstF, chF, isB, asB, andT, orT, notT, andF, orF, notF, ifF, nilA, consA, tupF, lstF, cbF, callF, bmF', truT, truV, nameG, nilG, consG, tupG, List.set_cons_zero, List.set_cons_succ, List.getElem?_cons_zero, List.getElem?_cons_succ, Option.bind_some, Option.bind_none, Option.map_some, Option.map_none, List.length_cons, List.length_nil, List.cons_append, List.nil_append, List.append_nil, if_true, if_false, ite_true, ite_false, Bool.false_eq_true, reduceIte, reduceCtorEq, List.map_cons, List.map_nil, Nat.sub_self, List.replicate_succ, List.replicate_zero, Nat.reduceSub, Nat.reduceAdd, Nat.reduceLT, Nat.reduceLeDiff, Nat.reduceEqDiff, Nat.reduceMul, Nat.reducePow, Int.reduceLT, Int.reduceLE, Int.reduceAdd, Int.reduceMul, Int.reduceSub, Int.reduceNeg, Int.reduceEq, Int.reducePow, Int.reduceMod, Int.reduceDiv, Int.reduceToNat, decide_true, decide_false, and_true, true_and, and_self, Option.some.injEq, idxV, at0, at1, at2, at3, at4, at5, seqAt, lstAt, lenV, isiV, typV, kb1, kb2, kb3, kb4, kb5, kb6, kb7, kb8, kb9, kb10, kb11, qB, ax, bB.1, n2, f6, s3', Bool.not_true, bC.1, bC.2, fl1, nr])).trans ?_
  refine (seqS_nx (e1 := [some (.frz (ns.map PV.int)), some (.ref q), some (.ref s1.length), some (.ref (s1.length + 2)), some (.int (0 + (i : Nat) * 1)), some y.pv, some (.int (ix vs x))]) (s1 := C) (by simp only [methF, seqS, ifS, setS, augS, dropS, retS, retN, nxS, bkS, ctS, asgS, subS, R.toS, R.bind, R.of, opF, unF, varF, cstF, chF, isB, asB, andT, orT, notT, andF, orF, notF, ifF, nilA, consA, tupF, lstF, cbF, callF, bmF', truT, truV, nameG, nilG, consG, tupG, List.set_cons_zero, List.set_cons_succ, List.getElem?_cons_zero, List.getElem?_cons_succ, Option.bind_some, Option.bind_none, Option.map_some, Option.map_none, List.length_cons, List.length_nil, List.cons_append, List.nil_append, List.append_nil, if_true, if_false, ite_true, ite_false, Bool.false_eq_true, reduceIte, reduceCtorEq, List.map_cons, List.map_nil, Nat.sub_self, List.replicate_succ, List.replicate_zero, Nat.reduceSub, Nat.reduceAdd, Nat.reduceLT, Nat.reduceLeDiff, Nat.reduceEqDiff, Nat.reduceMul, Nat.reducePow, Int.reduceLT, Int.reduceLE, Int.reduceAdd, Int.reduceMul, Int.reduceSub, Int.reduceNeg, Int.reduceEq, Int.reducePow, Int.reduceMod, Int.reduceDiv, Int.reduceToNat, decide_true, decide_false, and_true, true_and, and_self, Option.some.injEq, idxV, at0, at1, at2, at3, at4, at5, seqAt, lstAt, lenV, isiV, typV, kb1, kb2, kb3, kb4, kb5, kb6, kb7, kb8, kb9, kb10, kb11, qC, ax, bC.1, n1, f7, s3', Bool.not_true])).trans ?_
  simp only [methF, seqS, ifS, setS, augS, dropS, retS, retN, nxS, bkS, ctS, asgS, subS, R.toS, R.bind, R.of, opF, unF, varF, cstF, chF, isB, asB, andT, orT, notT, andF, orF, notF, ifF, nilA, consA, tupF, lstF, cbF, callF, bmF', truT, truV, nameG, nilG, consG, tupG, List.set_cons_zero, List.set_cons_succ, List.getElem?_cons_zero, List.getElem?_cons_succ, Option.bind_some, Option.bind_none, Option.map_some, Option.map_none, List.length_cons, List.length_nil, List.cons_append, List.nil_append, List.append_nil, if_true, if_false, ite_true, ite_false, Bool.false_eq_true, reduceIte, reduceCtorEq, List.map_cons, List.map_nil, Nat.sub_self, List.replicate_succ, List.replicate_zero, Nat.reduceSub, Nat.reduceAdd, Nat.reduceLT, Nat.reduceLeDiff, Nat.reduceEqDiff, Nat.reduceMul, Nat.reducePow, Int.reduceLT, Int.reduceLE, Int.reduceAdd, Int.reduceMul, Int.reduceSub, Int.reduceNeg, Int.reduceEq, Int.reducePow, Int.reduceMod, Int.reduceDiv, Int.reduceToNat, decide_true, decide_false, and_true, true_and, and_self, Option.some.injEq, idxV, at0, at1, at2, at3, at4, at5, seqAt, lstAt, lenV, isiV, typV, kb1, kb2, kb3, kb4, kb5, kb6, kb7, kb8, kb9, kb10, kb11, bC.1, n1, f8, f9, s4', Bool.not_true]
theorem part1 {ns : List Int} {ts0 : List Tr} (hT0 : Ok ts0) (hl0 : ts0.length ≤ 32) (hd0 : ∀ t ∈ ts0, t.depth ≤ 30) : ∃ (q : Nat) (ts : List Tr) (s1 : Store), (ifS (isB (opF eqV (opF modV (opF fdivV (callF 2 F_L_at [] (consA (varF 0) (consA (cstF (.int 0)) nilA))) (cstF (.int 7))) (cstF (.int 2))) (cstF (.int 1)))) (setS 1 (lrvF (varF 1))) nxS) [some (.frz (ns.map PV.int)), some (.ref 0), none, none, none, none, none] [.lst (ts0.map Tr.pv)] = .nx [some (.frz (ns.map PV.int)), some (.ref q), none, none, none, none, none] s1 ∧
      s1[q]? = some (.lst (ts.map Tr.pv)) ∧ Ok ts ∧ ts.length ≤ 32 ∧ ∀ t ∈ ts, t.depth ≤ 30 := by
  have c7 : (0 < (7 : Int) ∧ (7 : Int).natAbs.log2 < 9000) := by decide
  obtain ⟨m, hm⟩ : ∃ m, m = ns.getD (0 : Int).toNat 0 := ⟨_, rfl⟩
  have a0 := F_at (ns := ns) (k := 0) (st := [PO.lst (ts0.map Tr.pv)]) (by decide)
  rw [← hm] at a0
  have t : (isB (opF eqV (opF modV (opF fdivV (callF 2 F_L_at [] (consA (varF 0) (consA (cstF (.int 0)) nilA))) (cstF (.int 7))) (cstF (.int 2))) (cstF (.int 1)))) [some (.frz (ns.map PV.int)), some (.ref 0), none, none, none, none, none] [.lst (ts0.map Tr.pv)] = .ok (decide (m / 7 % 2 = 1)) [.lst (ts0.map Tr.pv)] := by
    simp only [seqS, ifS, setS, augS, dropS, retS, retN, nxS, bkS, ctS, asgS, subS, R.toS, R.bind, R.of, opF, unF, varF, cstF, chF, isB, asB, andT, orT, notT, andF, orF, notF, ifF, nilA, consA, tupF, lstF, cbF, callF, bmF', truT, truV, nameG, nilG, consG, tupG, List.set_cons_zero, List.set_cons_succ, List.getElem?_cons_zero, List.getElem?_cons_succ, Option.bind_some, Option.bind_none, Option.map_some, Option.map_none, List.length_cons, List.length_nil, List.cons_append, List.nil_append, List.append_nil, if_true, if_false, ite_true, ite_false, Bool.false_eq_true, reduceIte, reduceCtorEq, List.map_cons, List.map_nil, Nat.sub_self, List.replicate_succ, List.replicate_zero, Nat.reduceSub, Nat.reduceAdd, Nat.reduceLT, Nat.reduceLeDiff, Nat.reduceEqDiff, Nat.reduceMul, Nat.reducePow, Int.reduceLT, Int.reduceLE, Int.reduceAdd, Int.reduceMul, Int.reduceSub, Int.reduceNeg, Int.reduceEq, Int.reducePow, Int.reduceMod, Int.reduceDiv, Int.reduceToNat, decide_true, decide_false, and_true, true_and, and_self, Option.some.injEq, addV, iaddV, subV, mulV, fdivV, modV, powV, negV, cmpV, isNonV, notNonV, eqV, neV, eqB, scEq, t1, t2, t3, t4, t5, t6, t7, t8, t9, t10, t11, t12, t13, t14, t15, t16, a0, c7]
  by_cases e : m / 7 % 2 = 1
  · rw [decide_eq_true e] at t
    refine ⟨1, ts0.reverse, [.lst (ts0.map Tr.pv), .lst (ts0.reverse.map Tr.pv)], ?_, rfl, fun u hu => (hT0 u (List.mem_reverse.mp hu)).app fun z hz => List.mem_reverse.mpr hz, by rw [List.length_reverse]; exact hl0, fun t ht => hd0 t (List.mem_reverse.mp ht)⟩
    rw [List.map_reverse]
    refine (ifS_t t).trans ?_
    simp only [lrvF, seqS, ifS, setS, augS, dropS, retS, retN, nxS, bkS, ctS, asgS, subS, R.toS, R.bind, R.of, opF, unF, varF, cstF, chF, isB, asB, andT, orT, notT, andF, orF, notF, ifF, nilA, consA, tupF, lstF, cbF, callF, bmF', truT, truV, nameG, nilG, consG, tupG, List.set_cons_zero, List.set_cons_succ, List.getElem?_cons_zero, List.getElem?_cons_succ, Option.bind_some, Option.bind_none, Option.map_some, Option.map_none, List.length_cons, List.length_nil, List.cons_append, List.nil_append, List.append_nil, if_true, if_false, ite_true, ite_false, Bool.false_eq_true, reduceIte, reduceCtorEq, List.map_cons, List.map_nil, Nat.sub_self, List.replicate_succ, List.replicate_zero, Nat.reduceSub, Nat.reduceAdd, Nat.reduceLT, Nat.reduceLeDiff, Nat.reduceEqDiff, Nat.reduceMul, Nat.reducePow, Int.reduceLT, Int.reduceLE, Int.reduceAdd, Int.reduceMul, Int.reduceSub, Int.reduceNeg, Int.reduceEq, Int.reducePow, Int.reduceMod, Int.reduceDiv, Int.reduceToNat, decide_true, decide_false, and_true, true_and, and_self, Option.some.injEq, lstAt]
  · rw [decide_eq_false e] at t
    exact ⟨0, ts0, [.lst (ts0.map Tr.pv)], (ifS_f t).trans rfl, rfl, hT0, hl0, hd0⟩
theorem part2 {ns : List Int} {ts : List Tr} {q : Nat} {s1 : Store} (hq : s1[q]? = some (.lst (ts.map Tr.pv))) (hT : Ok ts) (hl : ts.length ≤ 32) (hd : ∀ t ∈ ts, t.depth ≤ 30) : ∃ (us : List Tr) (o4 o5 o6 : Option PV), forS (rng1I (consA (cbF lenV (consA (varF 1) nilA)) nilA)) (nameG 4) b_law_k11_s1 [some (.frz (ns.map PV.int)), some (.ref q), some (.ref s1.length), some (.ref (s1.length + 2)), none, none, none] (s1 ++ [bankO (s1.length + 1), .lst [], .lst []]) = .nx [some (.frz (ns.map PV.int)), some (.ref q), some (.ref s1.length), some (.ref (s1.length + 2)), o4, o5, o6] (s1 ++ [bankO (s1.length + 1), .lst (rows us), .lst (rows us)]) := by
  have r0 : rows [] = [] := rfl
  obtain ⟨e', st', k1, k2⟩ := forL_inv (gd := []) (g := nameG 4) (b := b_law_k11_s1) (xs := intL 0 1 ts.length)
    (fun i e s => ∃ (us : List Tr) (o4 o5 o6 : Option PV), s = s1 ++ [bankO (s1.length + 1), .lst (rows us), .lst (rows us)] ∧ e = [some (.frz (ns.map PV.int)), some (.ref q), some (.ref s1.length), some (.ref (s1.length + 2)), o4, o5, o6] ∧ Ok us ∧ (∀ u ∈ us, u ∈ ts) ∧ us.Nodup)
    (e := [some (.frz (ns.map PV.int)), some (.ref q), some (.ref s1.length), some (.ref (s1.length + 2)), none, none, none]) (st := s1 ++ [bankO (s1.length + 1), .lst [], .lst []])
    ⟨[], none, none, none, by rw [r0], rfl, (fun u hu => by cases hu), (fun u hu => by cases hu), List.nodup_nil⟩
    (fun i v e s hv hP => by
      obtain ⟨us, o4, o5, o6, rfl, rfl, hU, hs, hn⟩ := hP
      have il : i < ts.length := by have := (List.getElem?_eq_some_iff.mp hv).1; simpa [intL] using this
      have hv' : v = .int (0 + (i : Nat) * 1) := by
        unfold intL at hv
        rw [List.getElem?_map, List.getElem?_range il] at hv
        simpa using hv.symm
      subst hv'
      obtain ⟨us', o5', o6', b1, b2, b3, b4⟩ := turn (ns := ns) (o5 := o5) (o6 := o6) hT hl hd hq rfl il hU hs hn
      exact ⟨gd_nil _, _, rfl, _, _, b1, us', _, _, _, rfl, rfl, b2, b3, b4⟩) (fun e s hP => gd_nil _)
  obtain ⟨us, o4, o5, o6, rfl, rfl, hU, hs, hn⟩ := k2
  refine ⟨us, o4, o5, o6, ?_⟩
  have hq' : (s1 ++ [bankO (s1.length + 1), PO.lst [], PO.lst []])[q]? = some (.lst (ts.map Tr.pv)) := getOld hq
  have hr := rng1_ok (f := consA (cbF lenV (consA (varF 1) nilA)) nilA) (e := [some (.frz (ns.map PV.int)), some (.ref q), some (.ref s1.length), some (.ref (s1.length + 2)), none, none, none]) (s := s1 ++ [bankO (s1.length + 1), .lst [], .lst []]) (j := (ts.length : Int)) (by simp only [seqS, ifS, setS, augS, dropS, retS, retN, nxS, bkS, ctS, asgS, subS, R.toS, R.bind, R.of, opF, unF, varF, cstF, chF, isB, asB, andT, orT, notT, andF, orF, notF, ifF, nilA, consA, tupF, lstF, cbF, callF, bmF', truT, truV, nameG, nilG, consG, tupG, List.set_cons_zero, List.set_cons_succ, List.getElem?_cons_zero, List.getElem?_cons_succ, Option.bind_some, Option.bind_none, Option.map_some, Option.map_none, List.length_cons, List.length_nil, List.cons_append, List.nil_append, List.append_nil, if_true, if_false, ite_true, ite_false, Bool.false_eq_true, reduceIte, reduceCtorEq, List.map_cons, List.map_nil, Nat.sub_self, List.replicate_succ, List.replicate_zero, Nat.reduceSub, Nat.reduceAdd, Nat.reduceLT, Nat.reduceLeDiff, Nat.reduceEqDiff, Nat.reduceMul, Nat.reducePow, Int.reduceLT, Int.reduceLE, Int.reduceAdd, Int.reduceMul, Int.reduceSub, Int.reduceNeg, Int.reduceEq, Int.reducePow, Int.reduceMod, Int.reduceDiv, Int.reduceToNat, decide_true, decide_false, and_true, true_and, and_self, Option.some.injEq, idxV, at0, at1, at2, at3, at4, at5, seqAt, lstAt, lenV, isiV, typV, kb1, kb2, kb3, kb4, kb5, kb6, kb7, kb8, kb9, kb10, kb11, hq', List.length_map]) (by omega) (by omega)
  rw [Int.toNat_natCast] at hr
  unfold forS
  rw [hr, toS_ok]
  exact k1
end Pk11
end
end FL
end
section
set_option linter.all false
set_option maxRecDepth 100000
namespace FL
open PySem PySem.Spec PyProof.Rows L2
noncomputable section
namespace Pk11
open Bk
theorem body_ok {ns : List Int} (hns : ns.length ≤ 63) : ∃ g, b_law_k11 [some (.frz (ns.map PV.int)), none, none, none, none, none, none] [] = .rt (.bl true) g := by
  obtain ⟨ts0, ht0, hT0, hl0, hd0⟩ := F_trees (ns := ns) (st := []) hns
  obtain ⟨q, ts, s1, h1, hq, hT, hl, hd⟩ := part1 (ns := ns) hT0 hl0 hd0
  obtain ⟨us, o4, o5, o6, h2⟩ := part2 (ns := ns) hq hT hl hd
  have hi := F_init (s := s1)
  have hb : (s1 ++ [bankO (s1.length + 1), PO.lst (rows us), PO.lst (rows us)])[s1.length]? = some (bankO (s1.length + 1)) := by rw [getS0]; rfl
  have e1 : setS 1 (callF 2 F_L_trees [] (consA (varF 0) (consA (cstF (.int 20)) nilA))) [some (.frz (ns.map PV.int)), none, none, none, none, none, none] [] = .nx [some (.frz (ns.map PV.int)), some (.ref 0), none, none, none, none, none] [.lst (ts0.map Tr.pv)] := by
    unfold setS callF
    have ea : consA (varF 0) (consA (cstF (.int 20)) nilA) [some (.frz (ns.map PV.int)), none, none, none, none, none, none] [] = .ok [.frz (ns.map PV.int), .int 20] [] := rfl
    rw [ea, bind_ok]
    have el : ([PV.frz (ns.map PV.int), PV.int 20] ++ []).length = 2 := rfl
    rw [if_pos el, List.append_nil, ht0, toS_ok]
    rfl
  have e2 : setS 2 (makeF "Bank" 2 F_Bank___init__ (consA (cstF (.int 400)) nilA)) [some (.frz (ns.map PV.int)), some (.ref q), none, none, none, none, none] s1 = .nx [some (.frz (ns.map PV.int)), some (.ref q), some (.ref s1.length), none, none, none, none] (s1 ++ [bankO (s1.length + 1), .lst []]) := by
    simp only [makeF, seqS, ifS, setS, augS, dropS, retS, retN, nxS, bkS, ctS, asgS, subS, R.toS, R.bind, R.of, opF, unF, varF, cstF, chF, isB, asB, andT, orT, notT, andF, orF, notF, ifF, nilA, consA, tupF, lstF, cbF, callF, bmF', truT, truV, nameG, nilG, consG, tupG, List.set_cons_zero, List.set_cons_succ, List.getElem?_cons_zero, List.getElem?_cons_succ, Option.bind_some, Option.bind_none, Option.map_some, Option.map_none, List.length_cons, List.length_nil, List.cons_append, List.nil_append, List.append_nil, if_true, if_false, ite_true, ite_false, Bool.false_eq_true, reduceIte, reduceCtorEq, List.map_cons, List.map_nil, Nat.sub_self, List.replicate_succ, List.replicate_zero, Nat.reduceSub, Nat.reduceAdd, Nat.reduceLT, Nat.reduceLeDiff, Nat.reduceEqDiff, Nat.reduceMul, Nat.reducePow, Int.reduceLT, Int.reduceLE, Int.reduceAdd, Int.reduceMul, Int.reduceSub, Int.reduceNeg, Int.reduceEq, Int.reducePow, Int.reduceMod, Int.reduceDiv, Int.reduceToNat, decide_true, decide_false, and_true, true_and, and_self, Option.some.injEq, hi]
  have e3 : setS 3 (lstF nilA) [some (.frz (ns.map PV.int)), some (.ref q), some (.ref s1.length), none, none, none, none] (s1 ++ [bankO (s1.length + 1), .lst []]) = .nx [some (.frz (ns.map PV.int)), some (.ref q), some (.ref s1.length), some (.ref (s1.length + 2)), none, none, none] (s1 ++ [bankO (s1.length + 1), .lst [], .lst []]) := by
    simp only [seqS, ifS, setS, augS, dropS, retS, retN, nxS, bkS, ctS, asgS, subS, R.toS, R.bind, R.of, opF, unF, varF, cstF, chF, isB, asB, andT, orT, notT, andF, orF, notF, ifF, nilA, consA, tupF, lstF, cbF, callF, bmF', truT, truV, nameG, nilG, consG, tupG, List.set_cons_zero, List.set_cons_succ, List.getElem?_cons_zero, List.getElem?_cons_succ, Option.bind_some, Option.bind_none, Option.map_some, Option.map_none, List.length_cons, List.length_nil, List.cons_append, List.nil_append, List.append_nil, if_true, if_false, ite_true, ite_false, Bool.false_eq_true, reduceIte, reduceCtorEq, List.map_cons, List.map_nil, Nat.sub_self, List.replicate_succ, List.replicate_zero, Nat.reduceSub, Nat.reduceAdd, Nat.reduceLT, Nat.reduceLeDiff, Nat.reduceEqDiff, Nat.reduceMul, Nat.reducePow, Int.reduceLT, Int.reduceLE, Int.reduceAdd, Int.reduceMul, Int.reduceSub, Int.reduceNeg, Int.reduceEq, Int.reducePow, Int.reduceMod, Int.reduceDiv, Int.reduceToNat, decide_true, decide_false, and_true, true_and, and_self, Option.some.injEq, sizeLine_eq, lenS, appS]
  have e4 : retS (opF eqV (fldF "Bank" ("room" : Str) (varF 2)) (cstF (.int 400))) [some (.frz (ns.map PV.int)), some (.ref q), some (.ref s1.length), some (.ref (s1.length + 2)), o4, o5, o6] (s1 ++ [bankO (s1.length + 1), .lst (rows us), .lst (rows us)]) = .rt (.bl true) (s1 ++ [bankO (s1.length + 1), .lst (rows us), .lst (rows us)]) := by
    simp only [bankO] at hb ⊢
    simp only [fldF, seqS, ifS, setS, augS, dropS, retS, retN, nxS, bkS, ctS, asgS, subS, R.toS, R.bind, R.of, opF, unF, varF, cstF, chF, isB, asB, andT, orT, notT, andF, orF, notF, ifF, nilA, consA, tupF, lstF, cbF, callF, bmF', truT, truV, nameG, nilG, consG, tupG, List.set_cons_zero, List.set_cons_succ, List.getElem?_cons_zero, List.getElem?_cons_succ, Option.bind_some, Option.bind_none, Option.map_some, Option.map_none, List.length_cons, List.length_nil, List.cons_append, List.nil_append, List.append_nil, if_true, if_false, ite_true, ite_false, Bool.false_eq_true, reduceIte, reduceCtorEq, List.map_cons, List.map_nil, Nat.sub_self, List.replicate_succ, List.replicate_zero, Nat.reduceSub, Nat.reduceAdd, Nat.reduceLT, Nat.reduceLeDiff, Nat.reduceEqDiff, Nat.reduceMul, Nat.reducePow, Int.reduceLT, Int.reduceLE, Int.reduceAdd, Int.reduceMul, Int.reduceSub, Int.reduceNeg, Int.reduceEq, Int.reducePow, Int.reduceMod, Int.reduceDiv, Int.reduceToNat, decide_true, decide_false, and_true, true_and, and_self, Option.some.injEq, eqV, neV, eqB, scEq, t1, t2, t3, t4, t5, t6, t7, t8, t9, t10, t11, t12, t13, t14, t15, t16, hb, fl2]
  unfold b_law_k11
  exact ⟨_, (seqS_nx e1).trans ((seqS_nx h1).trans ((seqS_nx e2).trans ((seqS_nx e3).trans ((seqS_nx h2).trans e4))))⟩
theorem law_ok : ∀ ns : List Int, ns.length ≤ 63 → ∃ st, F_law_k11 [.frz (ns.map PV.int)] [] = .ok (.bl true) st := by
  intro ns hns
  obtain ⟨g, h⟩ := body_ok hns
  exact ⟨[], run_rt (g := g) h rfl⟩
end Pk11
theorem main_k11 : ∀ ns : List Int, ns.length ≤ 63 → ∃ st, F_law_k11 [.frz (ns.map PV.int)] [] = .ok (.bl true) st := Pk11.law_ok
end
end FL
end
open PySem PySem.W PyProof.Rows
set_option maxRecDepth 100000 in
set_option maxHeartbeats 0 in
theorem PySem.Challenge.cw_samewise_k11_put_and_found_holds : PySem.Challenge.rw_samewise_k11_put_and_found.Holds := by
  w_on; o_law; k_head; (case hw => w_witness2)
  k_fill
  refine L2.walk_of (l := PySem.Challenge.rw_samewise_k11_put_and_found) (n := 63) (k := 36) (x := "_law_script") (CX := fun w => L2.CX PySem.Challenge.rw_samewise_k11_put_and_found.prog w) (sp := fun w => FL.spTop _) rfl (by decide) rfl ⟨rfl, by decide, by decide⟩ (fun w h Y => PySem.W.kIn_of Y) ?F (fun _ _ a ns hl hO hS => ⟨a, ns, rfl, hl, hO, hS, fun _ => rfl⟩) (fun w H s e s' h => FL.top_cx _ w H s e s' h)
  case F =>
    intro w mg fa h KX G hmg
    refine' FL.Wk11.all_mk FL.main_k11 KX G hmg ?u_Bank ?a0 ?l0 ?c0 ?k0 ?a1 ?l1 ?c1 ?k1 ?a2 ?l2 ?c2 ?k2 ?a3 ?l3 ?c3 ?k3 ?a4 ?l4 ?c4 ?k4 ?a5 ?l5 ?dl5 ?dd5 ?c5 ?k5 ?a6 ?l6 ?c6 ?k6 ?a7 ?l7 ?c7 ?k7 ?a8 ?l8 ?c8 ?k8 ?a9 ?l9 ?c9 ?k9 ?a10 ?l10 ?c10 ?k10 ?a11 ?l11 ?c11 ?k11 ?a12 ?l12 ?c12 ?k12 ?a13 ?l13 ?c13 ?k13 ?a14 ?l14 ?c14 ?k14 ?a15 ?l15 ?c15 ?k15 ?z_enumerate ?z_tuple ?z_len ?z_range ?z_isinstance ?z_int ?z_bool ?z_max ?z_sum ?z_list ?z_reversed ?x0_Bank ?x1_Bank ?x2_Bank ?x3_Bank ?n_Bank_terms ?n_Bank_room ?t_Bank_place ?t_Bank_find ?t_Bank_hold ?t_Bank_put_part ?t_Bank_put ?y0_Bank ?y1_Bank ?y2_Bank
    (case u_Bank => k_is); (case a0 => k_is); (case l0 => k_is); (case c0 => k_is); (case k0 => k_is); (case a1 => k_is); (case l1 => k_is); (case c1 => k_is)
    (case k1 => k_is); (case a2 => k_is); (case l2 => k_is); (case c2 => k_is); (case k2 => k_is); (case a3 => k_is); (case l3 => k_is); (case c3 => k_is)
    (case k3 => k_is); (case a4 => k_is); (case l4 => k_is); (case c4 => k_is); (case k4 => k_is); (case a5 => k_is); (case l5 => k_is); (case dl5 => k_is)
    (case dd5 => rfl); (case c5 => k_is); (case k5 => k_is); (case a6 => k_is); (case l6 => k_is); (case c6 => k_is); (case k6 => k_is); (case a7 => k_is)
    (case l7 => k_is); (case c7 => k_is); (case k7 => k_is); (case a8 => k_is); (case l8 => k_is); (case c8 => k_is); (case k8 => k_is); (case a9 => k_is)
    (case l9 => k_is); (case c9 => k_is); (case k9 => k_is); (case a10 => k_is); (case l10 => k_is); (case c10 => k_is); (case k10 => k_is); (case a11 => k_is)
    (case l11 => k_is); (case c11 => k_is); (case k11 => k_is); (case a12 => k_is); (case l12 => k_is); (case c12 => k_is); (case k12 => k_is); (case a13 => k_is)
    (case l13 => k_is); (case c13 => k_is); (case k13 => k_is); (case a14 => k_is); (case l14 => k_is); (case c14 => k_is); (case k14 => k_is); (case a15 => k_is)
    (case l15 => k_is); (case c15 => k_is); (case k15 => k_is); (case z_enumerate => k_is); (case z_tuple => k_is); (case z_len => k_is); (case z_range => k_is); (case z_isinstance => k_is)
    (case z_int => k_is); (case z_bool => k_is); (case z_max => k_is); (case z_sum => k_is); (case z_list => k_is); (case z_reversed => k_is); (case x0_Bank => k_is); (case x1_Bank => k_is)
    (case x2_Bank => k_is); (case x3_Bank => k_is); (case n_Bank_terms => k_is); (case n_Bank_room => k_is); (case t_Bank_place => k_is); (case t_Bank_find => k_is); (case t_Bank_hold => k_is); (case t_Bank_put_part => k_is)
    (case t_Bank_put => k_is); (case y0_Bank => k_is); (case y1_Bank => k_is); (case y2_Bank => k_is)
