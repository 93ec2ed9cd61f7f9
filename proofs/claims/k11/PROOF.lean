import PyProof.Rows.All
import Wide.All
import OpenK.AllK
import Wide.FinOn
import HandS.ForMost
import HandS.ForExc
import HandS.Deep
import HandS.TupAny
import HandS.IsInst
import HandS.Defaults
import PySem.Challenge.RW_chairvote_k11_orders
set_option Elab.async false
set_option autoImplicit false
set_option linter.all false
set_option maxRecDepth 100000
set_option maxHeartbeats 4000000
/-! MCore: plain data, a plain store of cells, plain meanings of the readings: a reading holds where the plain meaning says so. -/
namespace M
open PySem L2

/-- plain data: a tuple is its items, what can change is a cell of the store -/
inductive D where
  | non | bl (b : Bool) | int (i : Int) | str (x : Str) | tup (xs : List D) | ref (n : Nat)
  /-- a tuple of the module's own -/
  | kt (xs : List D)
inductive Cell where
  | lst (f : Bool) (xs : List D)
  | dk (f : Bool) (kvs : List (Key × D))
  | dt (f : Bool) (kvs : List (List Key × D))
  | obj (c : Str) (fs : List (Str × D))
abbrev Store := List Cell
abbrev DEnv := List (Option D)
inductive Out (α : Type) where
  | ok (a : α) (S : Store)
  | exc (c : Str) (d : D) (S : Store)
  | bad
def Out.bind {α β : Type} (o : Out α) (f : α → Store → Out β) : Out β := match o with
  | .ok a S => f a S
  | .exc c d S => .exc c d S
  | .bad => .bad
inductive Fl where
  | nx (e : DEnv) (S : Store)
  | rt (d : D) (S : Store)
  | bk (e : DEnv) (S : Store)
  | ct (e : DEnv) (S : Store)
  | exc (c : Str) (d : D) (e : DEnv) (S : Store)
  | bad
abbrev ME := DEnv → Store → Out D
abbrev MT := DEnv → Store → Out Bool
abbrev MA := DEnv → Store → Out (List D)
abbrev MS := DEnv → Store → Fl

/-- a tuple of the written part -/
def KT (K : PySem.W.Frag) (a : Addr) (xs : List V) : Prop := ∃ (o : Obj) (its : Array Value) (n : Nat), K.lookup a = some o ∧ o.cls = .type "tuple" ∧ o.data = .seq its n ∧ its.size ≤ sizeLine ∧ Vals xs its.toList
mutual
def Rep (K : PySem.W.Frag) (α : List Addr) (H : Hp) : D → V → Prop
  | .non, v => v = .non
  | .bl b, v => v = .bl b
  | .int i, v => v = .int i
  | .str x, v => v = .str x
  | .tup ds, v => ∃ a vs, v = .ref a ∧ H a = some (.tup vs) ∧ RepAll K α H ds vs
  | .ref n, v => ∃ a, v = .ref a ∧ α[n]? = some a
  | .kt ds, v => ∃ a vs, v = .ref a ∧ KT K a vs ∧ RepAll K α H ds vs
def RepAll (K : PySem.W.Frag) (α : List Addr) (H : Hp) : List D → List V → Prop
  | [], vs => vs = []
  | d :: ds, vs => ∃ v r, vs = v :: r ∧ Rep K α H d v ∧ RepAll K α H ds r
end
/-- what grows: the cells' places, the tuples stay -/
structure Grow (α : List Addr) (H : Hp) (α' : List Addr) (H' : Hp) : Prop where
  pre : ∃ β, α' = α ++ β
  tup : ∀ a xs, H a = some (.tup xs) → H' a = some (.tup xs)
  frz : ∀ a o u, H a = some (.frz o u) → H' a = some (.frz o u)
theorem Grow.refl (α : List Addr) (H : Hp) : Grow α H α H := ⟨⟨[], by simp⟩, fun _ _ h => h, fun _ _ _ h => h⟩
theorem Grow.trans {α α1 α2 : List Addr} {H H1 H2 : Hp} (a : Grow α H α1 H1) (b : Grow α1 H1 α2 H2) : Grow α H α2 H2 := by
  obtain ⟨β, rfl⟩ := a.pre
  obtain ⟨γ, rfl⟩ := b.pre
  exact ⟨⟨β ++ γ, by simp⟩, fun x xs h => b.tup x xs (a.tup x xs h), fun x o u h => b.frz x o u (a.frz x o u h)⟩
theorem Grow.get {α α1 : List Addr} {H H1 : Hp} (g : Grow α H α1 H1) {n : Nat} {a : Addr} (h : α[n]? = some a) : α1[n]? = some a := by
  obtain ⟨β, rfl⟩ := g.pre
  rw [List.getElem?_append_left (List.getElem?_eq_some_iff.mp h).1]
  exact h
theorem Grow.sqt {K : PySem.W.Frag} {α α1 : List Addr} {H H1 : Hp} (g : Grow α H α1 H1) {a : Addr} {xs : List V} (h : SqT K H a xs) : SqT K H1 a xs := by
  rcases h with (h | ⟨o, h⟩) | h
  · exact .inl (.inl (g.tup _ _ h))
  · exact .inl (.inr ⟨o, g.frz _ _ _ h⟩)
  · exact .inr h
mutual
theorem Rep.mono {K : PySem.W.Frag} {α α1 : List Addr} {H H1 : Hp} (g : Grow α H α1 H1) : ∀ (d : D) (v : V), Rep K α H d v → Rep K α1 H1 d v
  | .non, _, h => h
  | .bl _, _, h => h
  | .int _, _, h => h
  | .str _, _, h => h
  | .tup ds, _, ⟨a, vs, e, t, r⟩ => ⟨a, vs, e, g.tup _ _ t, RepAll.mono g ds vs r⟩
  | .ref _, _, ⟨a, e, t⟩ => ⟨a, e, g.get t⟩
  | .kt ds, _, ⟨a, vs, e, t, r⟩ => ⟨a, vs, e, t, RepAll.mono g ds vs r⟩
theorem RepAll.mono {K : PySem.W.Frag} {α α1 : List Addr} {H H1 : Hp} (g : Grow α H α1 H1) : ∀ (ds : List D) (vs : List V), RepAll K α H ds vs → RepAll K α1 H1 ds vs
  | [], _, h => h
  | d :: ds, _, ⟨v, r, e, a, b⟩ => ⟨v, r, e, Rep.mono g d v a, RepAll.mono g ds r b⟩
end
section
variable {K : PySem.W.Frag} {α : List Addr} {H : Hp}
theorem RepAll.length : ∀ {ds : List D} {vs : List V}, RepAll K α H ds vs → vs.length = ds.length
  | [], _, h => by rw [show _ = [] from h] <;> rfl
  | d :: ds, _, ⟨v, r, e, a, b⟩ => by rw [e, List.length_cons, List.length_cons, RepAll.length b]
theorem RepAll.get : ∀ {ds : List D} {vs : List V} {i : Nat} {d : D}, RepAll K α H ds vs → ds[i]? = some d → ∃ v, vs[i]? = some v ∧ Rep K α H d v
  | [], _, i, d, _, h => by simp at h
  | x :: ds, _, 0, d, ⟨v, r, e, a, b⟩, h => by
    simp at h
    subst h
    exact ⟨v, by rw [e]; rfl, a⟩
  | x :: ds, _, i + 1, d, ⟨v, r, e, a, b⟩, h => by
    obtain ⟨u, h1, h2⟩ := RepAll.get (i := i) b (by simpa using h)
    exact ⟨u, by rw [e]; simpa using h1, h2⟩
theorem RepAll.append : ∀ {ds es : List D} {vs us : List V}, RepAll K α H ds vs → RepAll K α H es us → RepAll K α H (ds ++ es) (vs ++ us)
  | [], _, _, _, h, k => by rw [show _ = [] from h]; exact k
  | d :: ds, _, _, _, ⟨v, r, e, a, b⟩, k => by
    subst e
    exact ⟨v, _, rfl, a, RepAll.append b k⟩
theorem RepAll.take : ∀ {ds : List D} {vs : List V} (n : Nat), RepAll K α H ds vs → RepAll K α H (ds.take n) (vs.take n)
  | _, _, 0, _ => rfl
  | [], _, n + 1, h => by rw [show _ = [] from h]; exact rfl
  | d :: ds, _, n + 1, ⟨v, r, e, a, b⟩ => by
    subst e
    exact ⟨v, _, rfl, a, RepAll.take n b⟩
theorem RepAll.drop : ∀ {ds : List D} {vs : List V} (n : Nat), RepAll K α H ds vs → RepAll K α H (ds.drop n) (vs.drop n)
  | _, _, 0, h => h
  | [], _, n + 1, h => by rw [show _ = [] from h]; exact rfl
  | d :: ds, _, n + 1, ⟨v, r, e, a, b⟩ => by
    subst e
    exact RepAll.drop n b
theorem RepAll.set : ∀ {ds : List D} {vs : List V} {d : D} {v : V} (i : Nat), RepAll K α H ds vs → Rep K α H d v → RepAll K α H (ds.set i d) (vs.set i v)
  | [], _, _, _, i, h, _ => by rw [show _ = [] from h]; exact rfl
  | x :: ds, _, d, v, 0, ⟨w, r, e, a, b⟩, k => by
    subst e
    exact ⟨v, _, rfl, k, b⟩
  | x :: ds, _, d, v, i + 1, ⟨w, r, e, a, b⟩, k => by
    subst e
    exact ⟨w, _, rfl, a, RepAll.set i b k⟩
theorem RepAll.eraseIdx : ∀ {ds : List D} {vs : List V} (i : Nat), RepAll K α H ds vs → RepAll K α H (ds.eraseIdx i) (vs.eraseIdx i)
  | [], _, i, h => by rw [show _ = [] from h]; exact rfl
  | x :: ds, _, 0, ⟨w, r, e, a, b⟩ => by
    subst e
    exact b
  | x :: ds, _, i + 1, ⟨w, r, e, a, b⟩ => by
    subst e
    exact ⟨w, _, rfl, a, RepAll.eraseIdx i b⟩
theorem RepAll.one {d : D} {vs : List V} (h : RepAll K α H [d] vs) : ∃ v, vs = [v] ∧ Rep K α H d v := by
  obtain ⟨v, r, e, a, b⟩ := h
  exact ⟨v, by rw [e, show r = [] from b], a⟩
theorem RepAll.mk1 {d : D} {v : V} (h : Rep K α H d v) : RepAll K α H [d] [v] := ⟨v, [], rfl, h, rfl⟩
theorem RepAll.ints : ∀ {ns : List Int} {vs : List V}, RepAll K α H (ns.map D.int) vs → vs = ns.map V.int
  | [], _, h => h
  | n :: ns, _, ⟨v, r, e, a, b⟩ => by
    rw [e, show v = .int n from a, RepAll.ints (ns := ns) b] <;> rfl
theorem RepAll.of_ints : ∀ (ns : List Int), RepAll K α H (ns.map D.int) (ns.map V.int)
  | [] => rfl
  | n :: ns => ⟨_, _, rfl, rfl, RepAll.of_ints ns⟩
end
/-- a list that nobody writes -/
def FrL (K : PySem.W.Frag) (H : Hp) (a : Addr) (xs : List V) : Prop := (∃ o, H a = some (.frz o (.lst xs))) ∨
    ∃ (o : Obj) (its : Array Value) (n : Nat), K.lookup a = some o ∧ o.cls = .type "list" ∧ o.dict = none ∧ o.data = .seq its n ∧ its.size ≤ sizeLine ∧ Vals xs its.toList
/-- fields, pairs: the same keys, the values as told -/
def RepKV (K : PySem.W.Frag) (α : List Addr) (H : Hp) {κ : Type} (ds : List (κ × D)) (vs : List (κ × V)) : Prop := vs.map (·.1) = ds.map (·.1) ∧ RepAll K α H (ds.map (·.2)) (vs.map (·.2))
def CellOk (K : PySem.W.Frag) (CA : Str → Addr) (α : List Addr) (H : Hp) (a : Addr) : Cell → Prop
  | .lst false ds => ∃ vs, H a = some (.lst vs) ∧ RepAll K α H ds vs
  | .lst true ds => ∃ vs, FrL K H a vs ∧ RepAll K α H ds vs
  | .dk false kvs => ∃ vs, H a = some (.dK vs) ∧ RepKV K α H kvs vs
  | .dk true kvs => ∃ vs o, H a = some (.frz o (.dK vs)) ∧ RepKV K α H kvs vs
  | .dt false kvs => ∃ vs, H a = some (.dT vs) ∧ RepKV K α H kvs vs
  | .dt true kvs => ∃ vs o, H a = some (.frz o (.dT vs)) ∧ RepKV K α H kvs vs
  | .obj c fs => ∃ dx vs, H a = some (.ins (CA c) dx vs) ∧ RepKV K α H fs vs
def trk : Cell → Bool
  | .lst true _ => false
  | _ => true
structure HRep (K : PySem.W.Frag) (CA : Str → Addr) (α : List Addr) (H : Hp) (S : Store) : Prop where
  len : α.length = S.length
  ok : ∀ (n : Nat) (a : Addr) (c : Cell), α[n]? = some a → S[n]? = some c → CellOk K CA α H a c
  inj : ∀ (n m : Nat) (a : Addr) (c c' : Cell), α[n]? = some a → α[m]? = some a → S[n]? = some c → S[m]? = some c' → trk c = true → trk c' = true → n = m
theorem RepKV.mono {K : PySem.W.Frag} {κ : Type} {α α1 : List Addr} {H H1 : Hp} (g : Grow α H α1 H1) {ds : List (κ × D)} {vs : List (κ × V)} (h : RepKV K α H ds vs) : RepKV K α1 H1 ds vs := ⟨h.1, RepAll.mono g _ _ h.2⟩
theorem FrL.sq {K : PySem.W.Frag} {H : Hp} {a : Addr} {xs : List V} (h : FrL K H a xs) : SqL K H a xs := by
  rcases h with ⟨o, h⟩ | h
  · exact .inl (.inr ⟨o, h⟩)
  · exact .inr h
theorem FrL.mono {K : PySem.W.Frag} {α α1 : List Addr} {H H1 : Hp} (g : Grow α H α1 H1) {a : Addr} {xs : List V} (h : FrL K H a xs) : FrL K H1 a xs := by
  rcases h with ⟨o, h⟩ | h
  · exact .inl ⟨o, g.frz _ _ _ h⟩
  · exact .inr h
section
variable {K : PySem.W.Frag} {CA : Str → Addr} {α α1 : List Addr} {H H1 : Hp} {S : Store} {n : Nat} {c c' : Cell} {a : Addr} {o : HO}
theorem CellOk.some_of (h : CellOk K CA α H a c) (t : trk c = true) : ∃ o, H a = some o := by
  cases c with
  | lst f xs => cases f with
    | false => obtain ⟨vs, h, _⟩ := h; exact ⟨_, h⟩
    | true => cases t
  | dk f xs => cases f with
    | false => obtain ⟨vs, h, _⟩ := h; exact ⟨_, h⟩
    | true => obtain ⟨vs, o, h, _⟩ := h; exact ⟨_, h⟩
  | dt f xs => cases f with
    | false => obtain ⟨vs, h, _⟩ := h; exact ⟨_, h⟩
    | true => obtain ⟨vs, o, h, _⟩ := h; exact ⟨_, h⟩
  | obj k fs => obtain ⟨dx, vs, h, _⟩ := h; exact ⟨_, h⟩
/-- a cell whose own object stays -/
theorem CellOk.stay (g : Grow α H α1 H1) (h : CellOk K CA α H a c) (e : trk c = true → H1 a = H a) : CellOk K CA α1 H1 a c := by
  cases c with
  | lst f xs => cases f with
    | false => obtain ⟨vs, h, r⟩ := h; exact ⟨vs, (e rfl).trans h, RepAll.mono g _ _ r⟩
    | true => obtain ⟨vs, h, r⟩ := h; exact ⟨vs, h.mono g, RepAll.mono g _ _ r⟩
  | dk f xs => cases f with
    | false => obtain ⟨vs, h, r⟩ := h; exact ⟨vs, (e rfl).trans h, r.mono g⟩
    | true => obtain ⟨vs, o, h, r⟩ := h; exact ⟨vs, o, (e rfl).trans h, r.mono g⟩
  | dt f xs => cases f with
    | false => obtain ⟨vs, h, r⟩ := h; exact ⟨vs, (e rfl).trans h, r.mono g⟩
    | true => obtain ⟨vs, o, h, r⟩ := h; exact ⟨vs, o, (e rfl).trans h, r.mono g⟩
  | obj k fs => obtain ⟨dx, vs, h, r⟩ := h; exact ⟨dx, vs, (e rfl).trans h, r.mono g⟩
/-- what can be written in the abstract heap: neither a tuple nor locked -/
def Wr : HO → Prop
  | .tup _ => False
  | .frz _ _ => False
  | _ => True
theorem Grow.upd {u : HO} (h : H a = some u) (w : Wr u) : Grow α H α (L2.upd H a o) := ⟨⟨[], by simp⟩, fun b xs q => by
    have : b ≠ a := fun e => by subst e; rw [q] at h; cases h; exact w
    rw [upd_ne this]; exact q, fun b x y q => by
    have : b ≠ a := fun e => by subst e; rw [q] at h; cases h; exact w
    rw [upd_ne this]; exact q⟩
theorem Grow.new (h : H a = none) : Grow α H α (L2.upd H a o) := ⟨⟨[], by simp⟩, fun b xs q => by rw [upd_ne (ne_of_none q h)]; exact q, fun b x y q => by rw [upd_ne (ne_of_none q h)]; exact q⟩
theorem Grow.more (g : Grow α H α H1) (β : List Addr) : Grow α H (α ++ β) H1 := ⟨⟨β, rfl⟩, g.tup, g.frz⟩
/-- a cell is written -/
theorem HRep.write (R : HRep K CA α H S) (ha : α[n]? = some a) (hc : S[n]? = some c) (t : trk c = true) {u : HO} (hu : H a = some u) (w : Wr u) (t' : trk c' = true)
    (new : ∀ H2, H2 = L2.upd H a o → Grow α H α H2 → CellOk K CA α H2 a c') : HRep K CA α (L2.upd H a o) (S.set n c') where
  len := by rw [List.length_set]; exact R.len
  ok := fun m b d hb hd => by
    have g : Grow α H α (L2.upd H a o) := Grow.upd hu w
    by_cases e : m = n
    · subst e
      rw [ha] at hb
      cases hb
      rw [List.getElem?_set_self (List.getElem?_eq_some_iff.mp hc).1] at hd
      cases hd
      exact new _ rfl g
    · rw [List.getElem?_set_ne (Ne.symm e)] at hd
      refine (R.ok m b d hb hd).stay g fun td => ?_
      refine upd_ne fun z => ?_
      subst z
      exact e (R.inj m n _ d c hb ha hd hc td t)
  inj := fun m k b d d' hm hk hd hd' td td' => by
    have q : ∀ {j : Nat} {z : Cell}, (S.set n c')[j]? = some z → trk z = true → ∃ z', S[j]? = some z' ∧ trk z' = true := fun {j z} h1 h2 => by
      by_cases e : j = n
      · subst e; exact ⟨c, hc, t⟩
      · rw [List.getElem?_set_ne (Ne.symm e)] at h1; exact ⟨z, h1, h2⟩
    obtain ⟨x, hx, tx⟩ := q hd td
    obtain ⟨y, hy, ty⟩ := q hd' td'
    exact R.inj m k b x y hm hk hx hy tx ty
/-- the heap grows, the cells stay -/
theorem HRep.stay (R : HRep K CA α H S) (g : Grow α H α H1) (e : ∀ (n : Nat) (a : Addr) (c : Cell), α[n]? = some a → S[n]? = some c → trk c = true → H1 a = H a) : HRep K CA α H1 S where
  len := R.len
  ok := fun m b d hb hd => (R.ok m b d hb hd).stay g (e m b d hb hd)
  inj := R.inj
/-- a new object that is no cell -/
theorem HRep.side (R : HRep K CA α H S) (h : H a = none) : HRep K CA α (L2.upd H a o) S := R.stay (Grow.new h) fun n b c hb hc t => by
  obtain ⟨u, q⟩ := (R.ok n b c hb hc).some_of t
  exact upd_ne (ne_of_none q h)
/-- a new cell -/
theorem HRep.new (R : HRep K CA α H S) (h : H a = none) (new : ∀ H2, H2 = L2.upd H a o → Grow α H (α ++ [a]) H2 → CellOk K CA (α ++ [a]) H2 a c) : HRep K CA (α ++ [a]) (L2.upd H a o) (S ++ [c]) where
  len := by rw [List.length_append, List.length_append, R.len] <;> rfl
  ok := fun m b d hb hd => by
    have g : Grow α H (α ++ [a]) (L2.upd H a o) := (Grow.new h).more _
    by_cases e : m < S.length
    · rw [List.getElem?_append_left e] at hd
      rw [List.getElem?_append_left (by rw [R.len]; exact e)] at hb
      refine (R.ok m b d hb hd).stay g fun td => ?_
      obtain ⟨u, q⟩ := (R.ok m b d hb hd).some_of td
      exact upd_ne (ne_of_none q h)
    · have e' : m = S.length := by
        have := (List.getElem?_eq_some_iff.mp hd).1
        rw [List.length_append, List.length_singleton] at this
        omega
      subst e'
      rw [List.getElem?_append_right (Nat.le_refl _), Nat.sub_self] at hd
      rw [← R.len, List.getElem?_append_right (Nat.le_refl _), Nat.sub_self] at hb
      simp at hd hb
      subst hd
      subst hb
      exact new _ rfl g
  inj := fun m k b d d' hm hk hd hd' td td' => by
    have q : ∀ {j : Nat} {z : Cell}, (S ++ [c])[j]? = some z → (α ++ [a])[j]? = some b → trk z = true → (j < S.length ∧ S[j]? = some z ∧ α[j]? = some b ∧ b ≠ a) ∨ (j = S.length ∧ b = a) := fun {j z} h1 h2 h3 => by
      by_cases e : j < S.length
      · rw [List.getElem?_append_left e] at h1
        rw [List.getElem?_append_left (by rw [R.len]; exact e)] at h2
        obtain ⟨u, q⟩ := (R.ok j b z h2 h1).some_of h3
        exact .inl ⟨e, h1, h2, ne_of_none q h⟩
      · have e' : j = S.length := by
          have := (List.getElem?_eq_some_iff.mp h1).1
          rw [List.length_append, List.length_singleton] at this
          omega
        subst e'
        rw [← R.len, List.getElem?_append_right (Nat.le_refl _), Nat.sub_self] at h2
        simp at h2
        exact .inr ⟨rfl, h2.symm⟩
    rcases q hd hm td with ⟨a1, a2, a3, a4⟩ | ⟨a1, a2⟩
    · rcases q hd' hk td' with ⟨b1, b2, b3, b4⟩ | ⟨b1, b2⟩
      · exact R.inj m k b d d' a3 b3 a2 b2 td td'
      · exact absurd b2 a4
    · rcases q hd' hk td' with ⟨b1, b2, b3, b4⟩ | ⟨b1, b2⟩
      · exact absurd a2 b4
      · rw [a1, b1]
/-- the new cell's place -/
theorem HRep.newAt (R : HRep K CA α H S) : (α ++ [a])[S.length]? = some a := by
  rw [← R.len, List.getElem?_append_right (Nat.le_refl _), Nat.sub_self] <;> rfl
theorem HRep.at (R : HRep K CA α H S) (hc : S[n]? = some c) : ∃ a, α[n]? = some a ∧ CellOk K CA α H a c := by
  have h := (List.getElem?_eq_some_iff.mp hc).1
  rw [← R.len] at h
  have e : α[n]? = some α[n] := List.getElem?_eq_getElem h
  exact ⟨_, e, R.ok n _ c e hc⟩
end

/-! ### outcomes -/
/-- what is wished where the plain outcome is o -/
def okO {X Y : Type} (K : PySem.W.Frag) (CA : Str → Addr) (R : List Addr → Hp → X → Y → Prop) (α : List Addr) (H : Hp) (o : Out X) (Q : Y → Hp → Prop) (E : XK) : Prop := match o with
  | .ok d S' => ∀ α' H' v, Grow α H α' H' → HRep K CA α' H' S' → R α' H' d v → Q v H'
  | .exc c d S' => ∀ α' H' dd v, Grow α H α' H' → HRep K CA α' H' S' → Rep K α' H' d v → H' dd = some (.xd [(("at" : Str), v)]) → E (.ref (CA c)) (some dd) H'
  | .bad => False
abbrev RD (K : PySem.W.Frag) : List Addr → Hp → D → V → Prop := fun α H d v => Rep K α H d v
abbrev RDs (K : PySem.W.Frag) : List Addr → Hp → List D → List V → Prop := fun α H d v => RepAll K α H d v
abbrev RB : List Addr → Hp → Bool → Bool → Prop := fun _ _ b c => b = c
abbrev okE (K : PySem.W.Frag) (CA : Str → Addr) : List Addr → Hp → Out D → VK → XK → Prop := okO K CA (RD K)
abbrev okT (K : PySem.W.Frag) (CA : Str → Addr) : List Addr → Hp → Out Bool → (Bool → Hp → Prop) → XK → Prop := okO K CA RB
abbrev okA (K : PySem.W.Frag) (CA : Str → Addr) : List Addr → Hp → Out (List D) → (List V → Hp → Prop) → XK → Prop := okO K CA (RDs K)
def ORep (K : PySem.W.Frag) (α : List Addr) (H : Hp) : Option D → Option V → Prop
  | none, _ => True
  | some _, none => False
  | some d, some v => Rep K α H d v
/-- the slots -/
def ERep (K : PySem.W.Frag) (α : List Addr) (H : Hp) : DEnv → St → Prop
  | [], σ => σ = []
  | x :: e, σ => ∃ y r, σ = y :: r ∧ ORep K α H x y ∧ ERep K α H e r
def okS (K : PySem.W.Frag) (CA : Str → Addr) (α : List Addr) (H : Hp) (f : Fl) (De : Ends) (W : WX) : Prop := match f with
  | .nx e S => ∀ α' H' σ', Grow α H α' H' → HRep K CA α' H' S → ERep K α' H' e σ' → De.nx σ' H'
  | .rt d S => ∀ α' H' v, Grow α H α' H' → HRep K CA α' H' S → Rep K α' H' d v → De.rt v H'
  | .bk e S => ∀ α' H' σ', Grow α H α' H' → HRep K CA α' H' S → ERep K α' H' e σ' → De.bk σ' H'
  | .ct e S => ∀ α' H' σ', Grow α H α' H' → HRep K CA α' H' S → ERep K α' H' e σ' → De.ct σ' H'
  | .exc c d e S => ∀ α' H' σ' dd v, Grow α H α' H' → HRep K CA α' H' S → ERep K α' H' e σ' → Rep K α' H' d v → H' dd = some (.xd [(("at" : Str), v)]) → W (.ref (CA c)) (some dd) σ' H'
  | .bad => False
section
variable {K : PySem.W.Frag} {CA : Str → Addr} {α α1 : List Addr} {H H1 : Hp}
theorem ORep.mono (g : Grow α H α1 H1) : ∀ (x : Option D) (y : Option V), ORep K α H x y → ORep K α1 H1 x y
  | none, _, _ => trivial
  | some _, none, h => h
  | some d, some v, h => Rep.mono g d v h
theorem ERep.mono (g : Grow α H α1 H1) : ∀ (e : DEnv) (σ : St), ERep K α H e σ → ERep K α1 H1 e σ
  | [], _, h => h
  | x :: e, _, ⟨y, r, q, a, b⟩ => ⟨y, r, q, ORep.mono g x y a, ERep.mono g e r b⟩
theorem ERep.get : ∀ {e : DEnv} {σ : St} {i : Nat} {d : D}, ERep K α H e σ → e[i]? = some (some d) → ∃ v, σ[i]? = some (some v) ∧ Rep K α H d v
  | [], _, i, d, _, h => by simp at h
  | x :: e, _, 0, d, ⟨y, r, q, a, b⟩, h => by
    simp at h
    subst h
    cases y with
    | none => exact a.elim
    | some v => exact ⟨v, by rw [q]; rfl, a⟩
  | x :: e, _, i + 1, d, ⟨y, r, q, a, b⟩, h => by
    obtain ⟨u, h1, h2⟩ := ERep.get (i := i) b (by simpa using h)
    exact ⟨u, by rw [q]; simpa using h1, h2⟩
theorem ERep.set : ∀ {e : DEnv} {σ : St} (i : Nat) {x : Option D} {y : Option V}, ERep K α H e σ → ORep K α H x y → ERep K α H (e.set i x) (σ.set i y)
  | [], _, i, x, y, h, _ => by rw [show _ = [] from h]; exact rfl
  | z :: e, _, 0, x, y, ⟨w, r, q, a, b⟩, k => by
    subst q
    exact ⟨y, _, rfl, k, b⟩
  | z :: e, _, i + 1, x, y, ⟨w, r, q, a, b⟩, k => by
    subst q
    exact ⟨w, _, rfl, a, ERep.set i b k⟩
theorem ERep.length : ∀ {e : DEnv} {σ : St}, ERep K α H e σ → σ.length = e.length
  | [], _, h => by rw [show _ = [] from h] <;> rfl
  | z :: e, _, ⟨w, r, q, a, b⟩ => by rw [q, List.length_cons, List.length_cons, ERep.length b]
theorem ERep.of_all : ∀ {ds : List D} {vs : List V} (n : Nat), RepAll K α H ds vs → ERep K α H (ds.map some ++ List.replicate n none) (vs.map some ++ List.replicate n none)
  | [], _, 0, h => by rw [show _ = [] from h]; exact rfl
  | [], vs, n + 1, h => by
    rw [show vs = [] from h]
    exact ⟨none, _, rfl, trivial, ERep.of_all (ds := []) (vs := []) n (show RepAll K α H [] [] from rfl)⟩
  | d :: ds, _, n, ⟨v, r, e, a, b⟩ => by
    subst e
    exact ⟨some v, _, rfl, a, ERep.of_all n b⟩
theorem okO.mono {X Y : Type} {R : List Addr → Hp → X → Y → Prop} {o : Out X} {Q : Y → Hp → Prop} {E : XK} (g : Grow α H α1 H1) (h : okO K CA R α H o Q E) : okO K CA R α1 H1 o Q E := by
  cases o with
  | ok d S => exact fun α' H' v g' => h α' H' v (g.trans g')
  | exc c d S => exact fun α' H' dd v g' => h α' H' dd v (g.trans g')
  | bad => exact h
theorem okO.bind {X Y X' Y' : Type} {R : List Addr → Hp → X → Y → Prop} {R' : List Addr → Hp → X' → Y' → Prop} {o : Out X} {f : X → Store → Out X'} {Q : Y' → Hp → Prop} {E : XK} (h : okO K CA R' α H (o.bind f) Q E) :
    okO K CA R α H o (fun v H' => ∃ d S' α', Grow α H α' H' ∧ HRep K CA α' H' S' ∧ R α' H' d v ∧ okO K CA R' α' H' (f d S') Q E) E := by
  cases o with
  | ok d S => exact fun α' H' v g a b => ⟨d, S, α', g, a, b, okO.mono g h⟩
  | exc c d S => exact h
  | bad => exact h
theorem okS.mono {f : Fl} {De : Ends} {W : WX} (g : Grow α H α1 H1) (h : okS K CA α H f De W) : okS K CA α1 H1 f De W := by
  cases f with
  | nx e S => exact fun α' H' v g' => h α' H' v (g.trans g')
  | rt d S => exact fun α' H' v g' => h α' H' v (g.trans g')
  | bk e S => exact fun α' H' v g' => h α' H' v (g.trans g')
  | ct e S => exact fun α' H' v g' => h α' H' v (g.trans g')
  | exc c d e S => exact fun α' H' σ' dd v g' => h α' H' σ' dd v (g.trans g')
  | bad => exact h
end
end M

/-! MOps: plain operators on data, and that the readings' operators do what they say. -/
namespace M
open PySem L2

/-! ### data as the library's own -/
def allO {α β : Type} (f : α → Option β) : List α → Option (List β)
  | [] => some []
  | x :: r => match f x, allO f r with
    | some y, some ys => some (y :: ys)
    | _, _ => none
def pyD (S : Store) : Nat → D → Option PyData
  | _, .non => some .none
  | _, .bl b => some (.bool b)
  | _, .int i => some (.int i)
  | _, .str x => if PyData.strOk x = true then some (.str x) else none
  | 0, .kt _ => none
  | n + 1, .kt ds => (allO (pyD S n) ds).map .tuple
  | 0, .tup _ => none
  | n + 1, .tup ds => (allO (pyD S n) ds).map .tuple
  | 0, .ref _ => none
  | n + 1, .ref k => match S[k]? with
    | some (.lst _ ds) => (allO (pyD S n) ds).map .list
    | _ => none
section
variable {K : PySem.W.Frag} {CA : Str → Addr} {α : List Addr} {H : Hp} {S : Store}
theorem allO_cons {α β : Type} {f : α → Option β} {x : α} {r : List α} {zs : List β} (h : allO f (x :: r) = some zs) : ∃ y ys, f x = some y ∧ allO f r = some ys ∧ zs = y :: ys := by
  unfold allO at h
  cases e1 : f x with
  | none => rw [e1] at h; simp at h
  | some y =>
    cases e2 : allO f r with
    | none => rw [e1, e2] at h; simp at h
    | some ys => rw [e1, e2] at h; simp at h; exact ⟨y, ys, rfl, rfl, h.symm⟩
theorem pyAll_ok {n : Nat} (ih : ∀ d v p, pyD S n d = some p → Rep K α H d v → Dp K H v p ∧ p.canLay0 = true ∧ p.depth ≤ n) :
    ∀ (ds : List D) (vs : List V) (ps : List PyData), allO (pyD S n) ds = some ps → RepAll K α H ds vs → DpAll K H vs ps ∧ PyData.canLayAll0 ps = true ∧ PyData.depthAll ps ≤ n
  | [], vs, ps, h, r => by
    have e : ps = [] := by simpa [allO] using h.symm
    rw [e, show vs = [] from r]
    exact ⟨.nil, rfl, Nat.zero_le _⟩
  | d :: ds, _, ps, h, ⟨v, vs, e, a, b⟩ => by
    obtain ⟨y, ys, h1, h2, rfl⟩ := allO_cons h
    subst e
    obtain ⟨p1, p2, p3⟩ := ih d v y h1 a
    obtain ⟨q1, q2, q3⟩ := pyAll_ok ih ds vs ys h2 b
    refine ⟨.cons p1 q1, by rw [PyData.canLayAll0, p2, q2]; rfl, ?_⟩
    rw [PyData.depthAll]
    exact Nat.max_le.mpr ⟨p3, q3⟩
theorem sq_cell {f : Bool} {ds : List D} {a : Addr} (h : CellOk K CA α H a (.lst f ds)) : ∃ vs, SqL K H a vs ∧ RepAll K α H ds vs := by
  cases f with
  | false => obtain ⟨vs, h, r⟩ := h; exact ⟨vs, SqL.of h, r⟩
  | true => obtain ⟨vs, h, r⟩ := h; exact ⟨vs, h.sq, r⟩
theorem py_ok (R : HRep K CA α H S) : ∀ (n : Nat) (d : D) (v : V) (p : PyData), pyD S n d = some p → Rep K α H d v → Dp K H v p ∧ p.canLay0 = true ∧ p.depth ≤ n := by
  have atom : ∀ (n : Nat) (d : D) (v : V) (p : PyData), (match d with | .tup _ => False | .ref _ => False | .kt _ => False | _ => True) → pyD S n d = some p → Rep K α H d v → Dp K H v p ∧ p.canLay0 = true ∧ p.depth ≤ n := by
    intro n d v p hd h r
    cases d with
    | non =>
      have e : p = .none := by cases n <;> simpa [pyD] using h.symm
      rw [e, show v = .non from r]
      exact ⟨.non, rfl, Nat.zero_le _⟩
    | bl b =>
      have e : p = .bool b := by cases n <;> simpa [pyD] using h.symm
      rw [e, show v = .bl b from r]
      exact ⟨.bl b, rfl, Nat.zero_le _⟩
    | int i =>
      have e : p = .int i := by cases n <;> simpa [pyD] using h.symm
      rw [e, show v = .int i from r]
      exact ⟨.int i, rfl, Nat.zero_le _⟩
    | str x =>
      have e : PyData.strOk x = true ∧ p = .str x := by
        by_cases q : PyData.strOk x = true
        · exact ⟨q, by cases n <;> simpa [pyD, q] using h.symm⟩
        · cases n <;> simp [pyD, q] at h
      rw [e.2, show v = .str x from r]
      exact ⟨.str x, e.1, Nat.zero_le _⟩
    | tup ds => exact hd.elim
    | ref k => exact hd.elim
    | kt ds => exact hd.elim
  intro n
  induction n with
  | zero =>
    intro d v p h r
    cases d with
    | tup ds => simp [pyD] at h
    | kt ds => simp [pyD] at h
    | ref k => simp [pyD] at h
    | non => exact atom 0 _ v p trivial h r
    | bl b => exact atom 0 _ v p trivial h r
    | int i => exact atom 0 _ v p trivial h r
    | str x => exact atom 0 _ v p trivial h r
  | succ n ih =>
    intro d v p h r
    cases d with
    | non => exact atom _ _ v p trivial h r
    | bl b => exact atom _ _ v p trivial h r
    | int i => exact atom _ _ v p trivial h r
    | str x => exact atom _ _ v p trivial h r
    | tup ds =>
      obtain ⟨a, vs, rfl, t, ra⟩ := r
      rw [pyD, Option.map_eq_some_iff] at h
      obtain ⟨ps, h1, rfl⟩ := h
      obtain ⟨q1, q2, q3⟩ := pyAll_ok ih ds vs ps h1 ra
      exact ⟨.tup (SqT.of t) q1, q2, Nat.succ_le_succ q3⟩
    | kt ds =>
      obtain ⟨a, vs, rfl, t, ra⟩ := r
      rw [pyD, Option.map_eq_some_iff] at h
      obtain ⟨ps, h1, rfl⟩ := h
      obtain ⟨q1, q2, q3⟩ := pyAll_ok ih ds vs ps h1 ra
      exact ⟨.tup (.inr t) q1, q2, Nat.succ_le_succ q3⟩
    | ref k =>
      obtain ⟨a, rfl, t⟩ := r
      rw [pyD] at h
      cases e : S[k]? with
      | none => rw [e] at h; simp at h
      | some c =>
        rw [e] at h
        cases c with
        | lst f ds =>
          rw [Option.map_eq_some_iff] at h
          obtain ⟨ps, h1, rfl⟩ := h
          obtain ⟨vs, sq, ra⟩ := sq_cell (R.ok k a _ t e)
          obtain ⟨q1, q2, q3⟩ := pyAll_ok ih ds vs ps h1 ra
          exact ⟨.lst sq q1, q2, Nat.succ_le_succ q3⟩
        | dk f kv => simp at h
        | dt f kv => simp at h
        | obj c fs => simp at h
theorem shaped_of {p : PyData} {n : Nat} (h1 : p.canLay0 = true) (h2 : p.depth ≤ n) (hn : n ≤ 64) : SeqAt.shaped p = true := by
  unfold SeqAt.shaped
  rw [h1, decide_eq_true (Nat.le_trans h2 hn)] <;> rfl
end

/-! ### operators -/
abbrev LIM : Nat := 1000000
theorem lim_line {n : Nat} (h : n ≤ LIM) : n ≤ sizeLine := Nat.le_trans h (by rw [sizeLine_eq]; decide)
theorem lim_lt {n : Nat} (h : n < LIM) : n < sizeLine := Nat.lt_of_lt_of_le h (by rw [sizeLine_eq]; decide)
/-- a reading of an operator does what the plain operator says -/
def RR (K : PySem.W.Frag) (CA : Str → Addr) (r : R2) (f : D → D → Store → Out D) : Prop := ∀ α H S dx dy x y Q E, HRep K CA α H S → Rep K α H dx x → Rep K α H dy y → okE K CA α H (f dx dy S) Q E → r x y H Q
def RU (K : PySem.W.Frag) (CA : Str → Addr) (r : V → Hp → VK → Prop) (f : D → Store → Out D) : Prop := ∀ α H S dx x Q E, HRep K CA α H S → Rep K α H dx x → okE K CA α H (f dx S) Q E → r x H Q
def RCall (K : PySem.W.Frag) (CA : Str → Addr) (r : List V → Hp → VK → Prop) (f : List D → Store → Out D) : Prop := ∀ α H S ds vs Q E, HRep K CA α H S → RepAll K α H ds vs → okE K CA α H (f ds S) Q E → r vs H Q
section
variable {K : PySem.W.Frag} {CA : Str → Addr} {α : List Addr} {H : Hp} {S : Store}
/-- the answer is a plain value, the heap as it was -/
theorem okE.val {d : D} {v : V} {Q : VK} {E : XK} (h : okE K CA α H (.ok d S) Q E) (R : HRep K CA α H S) (r : Rep K α H d v) : Q v H := h α H v (Grow.refl _ _) R r
/-- the answer is a new cell -/
theorem okE.cell {c : Cell} {o : HO} {p : Addr} {Q : VK} {E : XK} (h : okE K CA α H (.ok (.ref S.length) (S ++ [c])) Q E) (R : HRep K CA α H S) (hp : H p = none)
    (new : ∀ H2, H2 = L2.upd H p o → Grow α H (α ++ [p]) H2 → CellOk K CA (α ++ [p]) H2 p c) : Q (.ref p) (L2.upd H p o) :=
  h (α ++ [p]) (L2.upd H p o) (.ref p) ((Grow.new hp).more _) (R.new hp new) ⟨p, rfl, R.newAt⟩
/-- the answer is a new tuple -/
theorem okE.tup {ds : List D} {vs : List V} {p : Addr} {Q : VK} {E : XK} (h : okE K CA α H (.ok (.tup ds) S) Q E) (R : HRep K CA α H S) (hp : H p = none) (r : RepAll K α H ds vs) : Q (.ref p) (L2.upd H p (.tup vs)) := by
  have g : Grow α H α (L2.upd H p (.tup vs)) := Grow.new hp
  exact h α (L2.upd H p (.tup vs)) (.ref p) g (R.side hp) ⟨p, vs, rfl, upd_same, RepAll.mono g _ _ r⟩
theorem lst_new {ds : List D} {vs : List V} {p : Addr} (r : RepAll K α H ds vs) : ∀ H2, H2 = L2.upd H p (.lst vs) → Grow α H (α ++ [p]) H2 → CellOk K CA (α ++ [p]) H2 p (.lst false ds) := fun H2 e g => ⟨vs, by rw [e]; exact upd_same, RepAll.mono g _ _ r⟩
end

def iNeed (c : Prop) [Decidable c] (d : D) (S : Store) : Out D := if c then .ok d S else .bad
theorem iNeed_pos {c : Prop} [Decidable c] {d : D} {S : Store} (h : c) : iNeed c d S = .ok d S := if_pos h
def CMulB (i j : Int) : Prop := (-(2 ^ 64) < i ∧ i < 2 ^ 64) ∨ (-(2 ^ 64) < j ∧ j < 2 ^ 64)
instance (i j : Int) : Decidable (CMulB i j) := by unfold CMulB; infer_instance
def dAdd (x y : D) (S : Store) : Out D := match x, y with
  | .int i, .int j => .ok (.int (i + j)) S
  | .str a, .str b => iNeed (a.length + b.length ≤ LIM) (.str (a ++ b)) S
  | .tup xs, .tup ys => iNeed (xs.length + ys.length ≤ LIM) (.tup (xs ++ ys)) S
  | .ref m, .ref n => match S[m]?, S[n]? with
    | some (.lst false xs), some (.lst false ys) => if xs.length + ys.length ≤ LIM then .ok (.ref S.length) (S ++ [.lst false (xs ++ ys)]) else .bad
    | _, _ => .bad
  | _, _ => .bad
def dII (f : Int → Int → D) (x y : D) (S : Store) : Out D := match x, y with
  | .int i, .int j => .ok (f i j) S
  | _, _ => .bad
def dIIc (c : Int → Int → Prop) [∀ i j, Decidable (c i j)] (f : Int → Int → D) (x y : D) (S : Store) : Out D := match x, y with
  | .int i, .int j => iNeed (c i j) (f i j) S
  | _, _ => .bad
abbrev dSub := dII fun i j => .int (i - j)
abbrev dAnd := dII fun i j => .int (Builtin.bitAnd i j)
abbrev dOr := dII fun i j => .int (Builtin.bitOr i j)
abbrev dXor := dII fun i j => .int (Builtin.bitXor i j)
abbrev dMod := dIIc (fun _ j => 0 < j) fun i j => .int (i % j)
abbrev dFdiv := dIIc (fun _ j => 0 < j ∧ j < 1073741824) fun i j => .int (i / j)
abbrev dPow := dIIc (fun i j => 0 ≤ j ∧ j ≤ 1000000 ∧ i.natAbs < 2 ^ 64) fun i j => .int (i ^ j.toNat)
abbrev dShl := dIIc (fun i j => 0 ≤ j ∧ j ≤ 1000000 ∧ i.natAbs < 2 ^ 64) fun i j => .int (i * 2 ^ j.toNat)
abbrev dShr := dIIc (fun _ j => 0 ≤ j) fun i j => .int (i / 2 ^ j.toNat)
abbrev dMul := dIIc CMulB fun i j => .int (i * j)
abbrev dLtI := dII fun i j => .bl (decide (i < j))
abbrev dLeI := dII fun i j => .bl (decide (i ≤ j))
abbrev dGtI := dII fun i j => .bl (decide (j < i))
abbrev dGeI := dII fun i j => .bl (decide (j ≤ i))
def dEq (x y : D) (S : Store) : Out D := match pyD S 8 x, pyD S 8 y with
  | some p, some q => .ok (.bl (PyData.eqv p q)) S
  | _, _ => .bad
def dNe (x y : D) (S : Store) : Out D := match pyD S 8 x, pyD S 8 y with
  | some p, some q => .ok (.bl (!PyData.eqv p q)) S
  | _, _ => .bad
def isNonD : D → Bool
  | .non => true
  | _ => false
def dIs (x y : D) (S : Store) : Out D := match y with
  | .non => .ok (.bl (isNonD x)) S
  | _ => .bad
def dIsNot (x y : D) (S : Store) : Out D := match y with
  | .non => .ok (.bl (!isNonD x)) S
  | _ => .bad
/-- x in a list -/
def dInL (x y : D) (S : Store) : Out D := match y with
  | .ref _ => match pyD S 8 x, pyD S 8 y with
    | some p, some (.list ps) => .ok (.bl (ps.any fun z => PyData.eqv z p)) S
    | _, _ => .bad
  | _ => .bad
def dNotInL (x y : D) (S : Store) : Out D := match y with
  | .ref _ => match pyD S 8 x, pyD S 8 y with
    | some p, some (.list ps) => .ok (.bl (!ps.any fun z => PyData.eqv z p)) S
    | _, _ => .bad
  | _ => .bad

section
variable {K : PySem.W.Frag} {CA : Str → Addr}
theorem rr_or {r r' : R2} {f f1 f2 : D → D → Store → Out D} (h1 : RR K CA r f1) (h2 : RR K CA r' f2) (h : ∀ x y S, f x y S = f1 x y S ∨ f x y S = f2 x y S ∨ f x y S = .bad) : RR K CA (fun x y H Q => r x y H Q ∨ r' x y H Q) f := by
  intro α H S dx dy x y Q E R rx ry q
  rcases h dx dy S with e | e | e
  · exact .inl (h1 α H S dx dy x y Q E R rx ry (by rw [← e]; exact q))
  · exact .inr (h2 α H S dx dy x y Q E R rx ry (by rw [← e]; exact q))
  · rw [e] at q; exact q.elim
theorem ok_iNeed {α : List Addr} {H : Hp} {S : Store} {c : Prop} [Decidable c] {d : D} {Q : VK} {E : XK} (h : okE K CA α H (iNeed c d S) Q E) : c ∧ okE K CA α H (.ok d S) Q E := by
  unfold iNeed at h
  by_cases hc : c
  · rw [if_pos hc] at h; exact ⟨hc, h⟩
  · rw [if_neg hc] at h; exact h.elim
/-- two whole numbers -/
theorem rr_II {g : Int → Int → V} {f : Int → Int → D} (h : ∀ i j α H, Rep K α H (f i j) (g i j)) : RR K CA (rI0 g) (dII f) := by
  intro α H S dx dy x y Q E R rx ry q
  cases dx with
  | int i => cases dy with
    | int j => exact ⟨i, j, rx, ry, okE.val q R (h i j α H)⟩
    | _ => exact q.elim
  | _ => exact (show False from q).elim
theorem rr_IIc {C : Int → Int → Prop} {c : Int → Int → Prop} [∀ i j, Decidable (c i j)] {g : Int → Int → V} {f : Int → Int → D} (hc : ∀ i j, c i j → C i j) (h : ∀ i j α H, Rep K α H (f i j) (g i j)) : RR K CA (rI C g) (dIIc c f) := by
  intro α H S dx dy x y Q E R rx ry q
  cases dx with
  | int i => cases dy with
    | int j =>
      obtain ⟨k, q⟩ := ok_iNeed q
      exact ⟨i, j, rx, ry, hc i j k, okE.val q R (h i j α H)⟩
    | _ => exact q.elim
  | _ => exact (show False from q).elim
theorem rr_sub : RR K CA (rI0 fun i j => .int (i - j)) dSub := rr_II fun _ _ _ _ => rfl
theorem rr_and : RR K CA (rI0 fun i j => .int (Builtin.bitAnd i j)) dAnd := rr_II fun _ _ _ _ => rfl
theorem rr_bor : RR K CA (rI0 fun i j => .int (Builtin.bitOr i j)) dOr := rr_II fun _ _ _ _ => rfl
theorem rr_xor : RR K CA (rI0 fun i j => .int (Builtin.bitXor i j)) dXor := rr_II fun _ _ _ _ => rfl
theorem rr_mod : RR K CA (rI (fun _ j => 0 < j) fun i j => .int (i % j)) dMod := rr_IIc (fun _ _ h => h) fun _ _ _ _ => rfl
theorem rr_fdiv : RR K CA (rI CDiv fun i j => .int (i / j)) dFdiv := rr_IIc (fun _ _ h => h) fun _ _ _ _ => rfl
theorem rr_pow : RR K CA (rI CPow fun i j => .int (i ^ j.toNat)) dPow := rr_IIc (fun _ _ h => h) fun _ _ _ _ => rfl
theorem rr_shl : RR K CA (rI CPow fun i j => .int (i * 2 ^ j.toNat)) dShl := rr_IIc (fun _ _ h => h) fun _ _ _ _ => rfl
theorem rr_shr : RR K CA (rI (fun _ j => 0 ≤ j) fun i j => .int (i / 2 ^ j.toNat)) dShr := rr_IIc (fun _ _ h => h) fun _ _ _ _ => rfl
theorem rr_mulI : RR K CA (rI CMul fun i j => .int (i * j)) dMul := rr_IIc (fun _ _ h => h) fun _ _ _ _ => rfl
theorem rr_ltI : RR K CA (rI0 fun i j => .bl (decide (i < j))) dLtI := rr_II fun _ _ _ _ => rfl
theorem rr_leI : RR K CA (rI0 fun i j => .bl (decide (i ≤ j))) dLeI := rr_II fun _ _ _ _ => rfl
theorem rr_gtI : RR K CA (rI0 fun i j => .bl (decide (j < i))) dGtI := rr_II fun _ _ _ _ => rfl
theorem rr_geI : RR K CA (rI0 fun i j => .bl (decide (j ≤ i))) dGeI := rr_II fun _ _ _ _ => rfl
theorem rr_eq : RR K CA (rEqD K) dEq := by
  intro α H S dx dy x y Q E R rx ry q
  unfold dEq at q
  cases e1 : pyD S 8 dx with
  | none => rw [e1] at q; exact q.elim
  | some p => cases e2 : pyD S 8 dy with
    | none => rw [e1, e2] at q; exact q.elim
    | some p' =>
      rw [e1, e2] at q
      obtain ⟨a1, a2, a3⟩ := py_ok R 8 dx x p e1 rx
      obtain ⟨b1, b2, b3⟩ := py_ok R 8 dy y p' e2 ry
      exact ⟨p, p', a1, b1, shaped_of a2 a3 (by decide), shaped_of b2 b3 (by decide), okE.val q R rfl⟩
theorem rr_ne : RR K CA (rNeD K) dNe := by
  intro α H S dx dy x y Q E R rx ry q
  unfold dNe at q
  cases e1 : pyD S 8 dx with
  | none => rw [e1] at q; exact q.elim
  | some p => cases e2 : pyD S 8 dy with
    | none => rw [e1, e2] at q; exact q.elim
    | some p' =>
      rw [e1, e2] at q
      obtain ⟨a1, a2, a3⟩ := py_ok R 8 dx x p e1 rx
      obtain ⟨b1, b2, b3⟩ := py_ok R 8 dy y p' e2 ry
      exact ⟨p, p', a1, b1, shaped_of a2 a3 (by decide), shaped_of b2 b3 (by decide), okE.val q R rfl⟩
theorem rr_inL : RR K CA (rInD K) dInL := by
  intro α H S dx dy x y Q E R rx ry q
  cases dy with
  | ref m =>
    unfold dInL at q
    cases e1 : pyD S 8 dx with
    | none => rw [e1] at q; exact q.elim
    | some p => cases e2 : pyD S 8 (.ref m) with
      | none => rw [e1, e2] at q; exact q.elim
      | some p' =>
        rw [e1, e2] at q
        cases p' with
        | list ps =>
          obtain ⟨a1, a2, a3⟩ := py_ok R 8 dx x p e1 rx
          obtain ⟨b1, b2, b3⟩ := py_ok R 8 _ y _ e2 ry
          exact ⟨p, ps, a1, b1, shaped_of a2 a3 (by decide), shaped_of b2 b3 (by decide), okE.val q R rfl⟩
        | _ => exact q.elim
  | _ => exact q.elim
theorem rr_notInL : RR K CA (rNotInD K) dNotInL := by
  intro α H S dx dy x y Q E R rx ry q
  cases dy with
  | ref m =>
    unfold dNotInL at q
    cases e1 : pyD S 8 dx with
    | none => rw [e1] at q; exact q.elim
    | some p => cases e2 : pyD S 8 (.ref m) with
      | none => rw [e1, e2] at q; exact q.elim
      | some p' =>
        rw [e1, e2] at q
        cases p' with
        | list ps =>
          obtain ⟨a1, a2, a3⟩ := py_ok R 8 dx x p e1 rx
          obtain ⟨b1, b2, b3⟩ := py_ok R 8 _ y _ e2 ry
          exact ⟨p, ps, a1, b1, shaped_of a2 a3 (by decide), shaped_of b2 b3 (by decide), okE.val q R rfl⟩
        | _ => exact q.elim
  | _ => exact q.elim
theorem rep_isNon {α : List Addr} {H : Hp} {d : D} {v : V} (r : Rep K α H d v) : decide (v = .non) = isNonD d := by
  cases d with
  | non => rw [show v = .non from r]; rfl
  | bl b => rw [show v = .bl b from r]; rfl
  | int b => rw [show v = .int b from r]; rfl
  | str b => rw [show v = .str b from r]; rfl
  | tup ds => obtain ⟨a, vs, rfl, _⟩ := r; rfl
  | ref n => obtain ⟨a, rfl, _⟩ := r; rfl
  | kt n => obtain ⟨a, vs, rfl, _⟩ := r; rfl
theorem rr_is : RR K CA (fun x y H Q => y = .non ∧ Q (.bl (decide (x = .non))) H) dIs := by
  intro α H S dx dy x y Q E R rx ry q
  cases dy with
  | non => exact ⟨ry, by rw [rep_isNon rx]; exact okE.val q R rfl⟩
  | _ => exact q.elim
theorem rr_isNot : RR K CA (fun x y H Q => y = .non ∧ Q (.bl (!decide (x = .non))) H) dIsNot := by
  intro α H S dx dy x y Q E R rx ry q
  cases dy with
  | non => exact ⟨ry, by rw [rep_isNon rx]; exact okE.val q R rfl⟩
  | _ => exact q.elim
/-- + of all kinds -/
def dAddI := dII fun i j => .int (i + j)
def dAddS (x y : D) (S : Store) : Out D := match x, y with
  | .str a, .str b => iNeed (a.length + b.length ≤ LIM) (.str (a ++ b)) S
  | _, _ => .bad
def dAddT (x y : D) (S : Store) : Out D := match x, y with
  | .tup xs, .tup ys => iNeed (xs.length + ys.length ≤ LIM) (.tup (xs ++ ys)) S
  | _, _ => .bad
def dAddL (x y : D) (S : Store) : Out D := match x, y with
  | .ref m, .ref n => match S[m]?, S[n]? with
    | some (.lst false xs), some (.lst false ys) => if xs.length + ys.length ≤ LIM then .ok (.ref S.length) (S ++ [.lst false (xs ++ ys)]) else .bad
    | _, _ => .bad
  | _, _ => .bad
abbrev rAddS : R2 := fun x y H Q => ∃ i j, x = .str i ∧ y = .str j ∧ i.length + j.length ≤ sizeLine ∧ Q (.str (i ++ j)) H
theorem rr_addS : RR K CA rAddS dAddS := by
  intro α H S dx dy x y Q E R rx ry q
  cases dx with
  | str i => cases dy with
    | str j =>
      obtain ⟨k, q⟩ := ok_iNeed (show okE K CA α H (iNeed _ _ S) Q E from q)
      exact ⟨i, j, rx, ry, lim_line k, okE.val q R rfl⟩
    | _ => exact q.elim
  | _ => exact (show False from q).elim
theorem rr_addT : RR K CA (rCatA K) dAddT := by
  intro α H S dx dy x y Q E R rx ry q
  cases dx with
  | tup xs => cases dy with
    | tup ys =>
      obtain ⟨k, q⟩ := ok_iNeed (show okE K CA α H (iNeed _ _ S) Q E from q)
      obtain ⟨a, vs, rfl, ta, ra⟩ := rx
      obtain ⟨b, us, rfl, tb, rb⟩ := ry
      refine ⟨a, b, vs, us, rfl, rfl, SqT.of ta, SqT.of tb, by rw [ra.length, rb.length]; exact lim_line k, fun e => ?_, fun _ e => ?_, fun _ _ p hp => ?_⟩
      · have l : xs = [] := List.length_eq_zero_iff.mp (by rw [← ra.length, e] <;> rfl)
        subst l
        exact okE.val q R ⟨b, us, rfl, tb, rb⟩
      · have l : ys = [] := List.length_eq_zero_iff.mp (by rw [← rb.length, e] <;> rfl)
        subst l
        rw [List.append_nil] at q
        exact okE.val q R ⟨a, vs, rfl, ta, ra⟩
      · exact okE.tup q R hp (ra.append rb)
    | _ => exact q.elim
  | _ => exact (show False from q).elim
theorem cell_false {α : List Addr} {H : Hp} {S : Store} {n : Nat} {xs : List D} {a : Addr} (R : HRep K CA α H S) (h : S[n]? = some (.lst false xs)) (ha : α[n]? = some a) : ∃ vs, H a = some (.lst vs) ∧ RepAll K α H xs vs := R.ok n a _ ha h
theorem rr_addL : RR K CA rCat dAddL := by
  intro α H S dx dy x y Q E R rx ry q
  cases dx with
  | ref m => cases dy with
    | ref n =>
      obtain ⟨a, rfl, ha⟩ := rx
      obtain ⟨b, rfl, hb⟩ := ry
      unfold dAddL at q
      cases e1 : S[m]? with
      | none => simp only [e1] at q; exact q.elim
      | some c => cases e2 : S[n]? with
        | none =>
          simp only [e1, e2] at q
          rcases c with ⟨_ | _, _⟩ | _ | _ | _ <;> exact q.elim
        | some c' =>
          simp only [e1, e2] at q
          rcases c with ⟨_ | _, xs⟩ | _ | _ | _
          · rcases c' with ⟨_ | _, ys⟩ | _ | _ | _
            · by_cases k : xs.length + ys.length ≤ LIM
              · simp only [if_pos k] at q
                obtain ⟨vs, h1, r1⟩ := cell_false R e1 ha
                obtain ⟨us, h2, r2⟩ := cell_false R e2 hb
                exact ⟨a, b, vs, us, rfl, rfl, h1, h2, by rw [r1.length, r2.length]; exact lim_line k, fun p hp => okE.cell q R hp (lst_new (r1.append r2))⟩
              · simp only [if_neg k] at q; exact q.elim
            all_goals exact q.elim
          all_goals exact q.elim
    | _ => exact q.elim
  | _ => exact (show False from q).elim
theorem rr_add : RR K CA (fun x y H Q => rI0 (fun i j => .int (i + j)) x y H Q ∨ rAddS x y H Q ∨ rCatA K x y H Q ∨ rCat x y H Q) dAdd := by
  refine rr_or (f1 := dAddI) (f2 := fun x y S => match x, y with | .int _, .int _ => .bad | x, y => dAdd x y S) (rr_II fun _ _ _ _ => rfl) (rr_or (f1 := dAddS) (f2 := fun x y S => match x, y with | .tup _, .tup _ => dAdd x y S | .ref _, .ref _ => dAdd x y S | _, _ => .bad) rr_addS (rr_or (f1 := dAddT) (f2 := dAddL) rr_addT rr_addL ?_) ?_) ?_
  all_goals
    intro x y S
    cases x <;> cases y <;> first | exact .inl rfl | exact .inr (.inl rfl) | exact .inr (.inr rfl)
end
end M

/-! MExpr: expressions, tests, arguments by their plain meanings. -/
namespace M
open PySem L2

/-! ### a reading weakened -/
theorem _root_.L2.PE.imp {X : Cx} {e : Expr} {t t' : TE} (h : PE X e t) (i : ∀ σ H Q, t' σ H Q → t σ H Q) : PE X e t' := ⟨fun pins s σ H Q I q => h.run pins s σ H Q I (i σ H Q q)⟩
theorem _root_.L2.PT.imp {X : Cx} {e : Expr} {t t' : TT} (h : PT X e t) (i : ∀ σ H Q, t' σ H Q → t σ H Q) : PT X e t' := ⟨fun pins s σ H Q I q => h.run pins s σ H Q I (i σ H Q q)⟩
theorem _root_.L2.PW.imp {X : Cx} {e : Expr} {t t' : TT} (h : PW X e t) (i : ∀ σ H Q, t' σ H Q → t σ H Q) : PW X e t' := ⟨fun wh pins s σ H Q I q => h.run wh pins s σ H Q I (i σ H Q q)⟩
theorem _root_.L2.PA.imp {X : Cx} {es : List Expr} {t t' : TA} (h : PA X es t) (i : ∀ σ H Q, t' σ H Q → t σ H Q) : PA X es t' := ⟨fun pos pins s σ H Q I q => h.run pos pins s σ H Q I (i σ H Q q)⟩
theorem _root_.L2.PS.imp {X : Cx} {st : Stmt} {t t' : TS} (h : PS X st t) (i : ∀ De σ H, t' De σ H → t De σ H) : PS X st t' := ⟨fun pins s σ H De I q => h.run pins s σ H De I (i De σ H q)⟩
theorem _root_.L2.PSs.imp {X : Cx} {st : List Stmt} {t t' : TS} (h : PSs X st t) (i : ∀ De σ H, t' De σ H → t De σ H) : PSs X st t' := ⟨fun pins s σ H De I q => h.run pins s σ H De I (i De σ H q)⟩
theorem _root_.L2.PE.or {X : Cx} {e : Expr} {t u : TE} (h : PE X e t) (k : PE X e u) : PE X e (fun σ H Q => t σ H Q ∨ u σ H Q) := ⟨fun pins s σ H Q I q => q.elim (h.run pins s σ H Q I) (k.run pins s σ H Q I)⟩
theorem _root_.L2.PS.or {X : Cx} {e : Stmt} {t u : TS} (h : PS X e t) (k : PS X e u) : PS X e (fun De σ H => t De σ H ∨ u De σ H) := ⟨fun pins s σ H Q I q => q.elim (h.run pins s σ H Q I) (k.run pins s σ H Q I)⟩

/-! ### the readings by plain meanings -/
section
variable (K : PySem.W.Frag) (CA : Str → Addr) (W : WX)
def tE (m : ME) : TE := fun σ H Q => ∃ α S e, HRep K CA α H S ∧ ERep K α H e σ ∧ okE K CA α H (m e S) Q fun c d H' => W c d σ H'
def tT (m : MT) : TT := fun σ H Q => ∃ α S e, HRep K CA α H S ∧ ERep K α H e σ ∧ okT K CA α H (m e S) Q fun c d H' => W c d σ H'
def tA (m : MA) : TA := fun σ H Q => ∃ α S e, HRep K CA α H S ∧ ERep K α H e σ ∧ okA K CA α H (m e S) Q fun c d H' => W c d σ H'
def tS (m : MS) : TS := fun De σ H => ∃ α S e, HRep K CA α H S ∧ ERep K α H e σ ∧ okS K CA α H (m e S) De W
end
/-- no exception may leave -/
def noEx {X : Type} (o : Out X) : Out X := match o with
  | .exc _ _ _ => .bad
  | o => o

/-! ### plain meanings of expressions -/
def mC (d : D) : ME := fun _ S => .ok d S
def mVar (i : Nat) : ME := fun e S => match e[i]? with
  | some (some d) => .ok d S
  | _ => .bad
def mBin (f : D → D → Store → Out D) (a b : ME) : ME := fun e S => (a e S).bind fun x S1 => (b e S1).bind fun y S2 => f x y S2
def mUn (f : D → Store → Out D) (a : ME) : ME := fun e S => (a e S).bind fun x S1 => f x S1
def mArgs : List ME → MA
  | [] => fun _ S => .ok [] S
  | m :: r => fun e S => (m e S).bind fun x S1 => (mArgs r e S1).bind fun xs S2 => .ok (x :: xs) S2
def mTup (ms : List ME) : ME := fun e S => (mArgs ms e S).bind fun ds S1 => .ok (.tup ds) S1
def mLst (ms : List ME) : ME := fun e S => (mArgs ms e S).bind fun ds S1 => .ok (.ref S1.length) (S1 ++ [.lst false ds])
def mCall (f : List D → Store → Out D) (ms : List ME) : ME := fun e S => (mArgs ms e S).bind fun ds S1 => f ds S1
def dBool (d : D) (S : Store) : Out Bool := match d with
  | .bl b => .ok b S
  | _ => .bad
/-- a test that gives True or False -/
def mTest (m : ME) : MT := fun e S => (m e S).bind fun d S1 => dBool d S1
def mAndT (a b : MT) : MT := fun e S => (a e S).bind fun c S1 => if c = true then b e S1 else .ok false S1
def mOrT (a b : MT) : MT := fun e S => (a e S).bind fun c S1 => if c = true then .ok true S1 else b e S1
def mNotT (a : MT) : MT := fun e S => (a e S).bind fun c S1 => .ok (!c) S1
def mAnd (a b : ME) : ME := fun e S => (a e S).bind fun x S1 => match x with
  | .bl true => b e S1
  | .bl false => .ok (.bl false) S1
  | _ => .bad
def mOr (a b : ME) : ME := fun e S => (a e S).bind fun x S1 => match x with
  | .bl true => .ok (.bl true) S1
  | .bl false => b e S1
  | _ => .bad
def mNot (a : ME) : ME := fun e S => (a e S).bind fun x S1 => match x with
  | .bl b => .ok (.bl (!b)) S1
  | _ => .bad
def mIf (c : MT) (a b : ME) : ME := fun e S => (c e S).bind fun k S1 => if k = true then a e S1 else b e S1
/-- an own class's field -/
def dFld (f : Str) (x : D) (S : Store) : Out D := match x with
  | .ref n => match S[n]? with
    | some (.obj _ fs) => match fs.lookup f with
      | some d => .ok d S
      | none => .bad
    | _ => .bad
  | _ => .bad
/-- items -/
def dIxL (x y : D) (S : Store) : Out D := match x, y with
  | .ref n, .int i => match S[n]? with
    | some (.lst _ xs) => match atI xs i with
      | some d => .ok d S
      | none => .bad
    | _ => .bad
  | _, _ => .bad
def dIxT (x y : D) (S : Store) : Out D := match x, y with
  | .tup xs, .int i => match atI xs i with
    | some d => .ok d S
    | none => .bad
  | .kt xs, .int i => match atI xs i with
    | some d => .ok d S
    | none => .bad
  | _, _ => .bad
def dIxS (x y : D) (S : Store) : Out D := match x, y with
  | .str z, .int i => match atI z.cps.toList i with
    | some c => iNeed (z.length ≤ LIM) (.str ⟨#[c]⟩) S
    | none => .bad
  | _, _ => .bad
def dIx (x y : D) (S : Store) : Out D := match x with
  | .ref _ => dIxL x y S
  | .tup _ => dIxT x y S
  | .str _ => dIxS x y S
  | .kt _ => dIxT x y S
  | _ => .bad
/-- slices -/
def mPart (m : Option ME) : DEnv → Store → Out (Option Int) := match m with
  | none => fun _ S => .ok none S
  | some m => fun e S => (m e S).bind fun d S1 => match d with
    | .int i => .ok (some i) S1
    | _ => .bad
def cutD {α : Type} (xs : List α) (lo hi : Option Int) : List α := (xs.drop (HT.sIx xs.length 0 lo)).take (HT.sIx xs.length xs.length hi - HT.sIx xs.length 0 lo)
def dSl (x : D) (lo hi : Option Int) (S : Store) : Out D := match x with
  | .ref n => match S[n]? with
    | some (.lst _ xs) => .ok (.ref S.length) (S ++ [.lst false (cutD xs lo hi)])
    | _ => .bad
  | .tup xs => .ok (.tup (cutD xs lo hi)) S
  | .str z => iNeed (z.length ≤ LIM) (.str (cutS z lo hi)) S
  | _ => .bad
def mSl (a : ME) (lo hi : Option ME) : ME := fun e S => (a e S).bind fun x S1 => (mPart lo e S1).bind fun l S2 => (mPart hi e S2).bind fun h S3 => dSl x l h S3
/-- what counts as true -/
def dTru (d : D) (S : Store) : Out Bool := match d with
  | .non => .ok false S
  | .bl b => .ok b S
  | .int i => .ok (i != 0) S
  | .str z => if z.length ≤ LIM then .ok ((z.length : Int) != 0) S else .bad
  | .tup xs => .ok (!xs.isEmpty) S
  | .kt xs => .bad
  | .ref n => match S[n]? with
    | some (.lst _ xs) => .ok (!xs.isEmpty) S
    | some (.dk false kvs) => .ok (!kvs.isEmpty) S
    | _ => .bad
def mTruth (m : ME) : MT := fun e S => (m e S).bind fun d S1 => dTru d S1

section
variable {X : Cx} {CA : Str → Addr} {W : WX} {e a b : Expr} {pos : Pos} {ma mb : ME}
theorem ce_c {d : D} {v : V} (h : PE X e (tC v)) (r : ∀ α H, Rep X.K α H d v) : PE X e (tE X.K CA W (mC d)) := h.imp fun σ H Q ⟨α, S, en, R, Er, q⟩ => okE.val q R (r α H)
theorem ce_int {i : Int} {j} : PE X (.Constant (.int i) j pos) (tE X.K CA W (mC (.int i))) := ce_c pe_int fun _ _ => rfl
theorem ce_bl {i : Bool} {j} : PE X (.Constant (.bool i) j pos) (tE X.K CA W (mC (.bl i))) := ce_c pe_bl fun _ _ => rfl
theorem ce_non {j} : PE X (.Constant .none j pos) (tE X.K CA W (mC .non)) := ce_c pe_non fun _ _ => rfl
theorem ce_str {x : Str} {j} : PE X (.Constant (.str x) j pos) (tE X.K CA W (mC (.str x))) := ce_c pe_str fun _ _ => rfl
theorem cv (i : Nat) {x : Str} (hN : X.N[i]? = some x := by rfl) (hv : Vis X.env.scope x := by first | exact Or.inl rfl | exact Or.inr (Or.inl rfl) | exact Or.inr (Or.inr rfl)) (hd : (x == ("__debug__" : Str)) = false := by decide)
    (hcd : (x == ("__classdict__" : Str)) = false := by decide) : PE X (.Name x pos) (tE X.K CA W (mVar i)) := (pe_var hN hv hd hcd).imp fun σ H Q ⟨α, S, en, R, Er, q⟩ => by
  unfold mVar at q
  cases q1 : en[i]? with
  | none => rw [q1] at q; exact q.elim
  | some o => cases o with
    | none => rw [q1] at q; exact q.elim
    | some d =>
      rw [q1] at q
      obtain ⟨v, h1, h2⟩ := Er.get q1
      exact ⟨v, h1, okE.val q R h2⟩

theorem okO.imp {X' Y : Type} {K : PySem.W.Frag} {R : List Addr → Hp → X' → Y → Prop} {α : List Addr} {H : Hp} {o : Out X'} {Q Q' : Y → Hp → Prop} {E : XK} (h : okO K CA R α H o Q E) (i : ∀ v H', Q v H' → Q' v H') : okO K CA R α H o Q' E := by
  cases o with
  | ok d S => exact fun α' H' v g a b => i _ _ (h α' H' v g a b)
  | exc c d S => exact h
  | bad => exact h
/-- two parts, one behind the other -/
theorem two_of {r : R2} {f : D → D → Store → Out D} (hr : RR X.K CA r f) : ∀ σ H Q, tE X.K CA W (mBin f ma mb) σ H Q → tOp r (tE X.K CA W ma) (tE X.K CA W mb) σ H Q := fun σ H Q ⟨α, S, en, R, Er, q⟩ =>
  ⟨α, S, en, R, Er, (okO.bind (R := RD X.K) q).imp fun x H1 ⟨d, S1, α1, g1, R1, r1, q1⟩ => ⟨α1, S1, en, R1, ERep.mono g1 _ _ Er, (okO.bind (R := RD X.K) q1).imp fun y H2 ⟨d2, S2, α2, g2, R2, r2, q2⟩ =>
    hr α2 H2 S2 d d2 x y Q _ R2 (Rep.mono g2 _ _ r1) r2 q2⟩⟩
theorem ce_bin {op : Operator} {r : R2} {f : D → D → Store → Out D} (ho : OpR X (binaryOp op) r) (hr : RR X.K CA r f) (ha : PE X a (tE X.K CA W ma)) (hb : PE X b (tE X.K CA W mb)) : PE X (.BinOp a op b pos) (tE X.K CA W (mBin f ma mb)) := (pe_op ho ha hb).imp (two_of hr)
theorem ce_cmp {op : CmpOp} {r : R2} {f : D → D → Store → Out D} (ho : OpR X (compareOp op) r) (hr : RR X.K CA r f) (ha : PE X a (tE X.K CA W ma)) (hb : PE X b (tE X.K CA W mb)) (hm : behindInMarks op b = false) : PE X (.Compare a [op] [b] pos) (tE X.K CA W (mBin f ma mb)) := (pe_cmpR ho ha hb hm).imp (two_of hr)
theorem ce_un {op : UnaryOp} {r : V → Hp → VK → Prop} {f : D → Store → Out D} (ho : UnR X (unaryOp op) r) (hr : RU X.K CA r f) (ha : PE X a (tE X.K CA W ma)) : PE X (.UnaryOp op a pos) (tE X.K CA W (mUn f ma)) := (pe_un ho ha).imp fun σ H Q ⟨α, S, en, R, Er, q⟩ =>
  ⟨α, S, en, R, Er, (okO.bind (R := RD X.K) q).imp fun x H1 ⟨d, S1, α1, g1, R1, r1, q1⟩ => hr α1 H1 S1 d x Q _ R1 r1 q1⟩
theorem ce_add (ha : PE X a (tE X.K CA W ma)) (hb : PE X b (tE X.K CA W mb)) : PE X (.BinOp a .Add b pos) (tE X.K CA W (mBin dAdd ma mb)) := ce_bin (op_add.or (op_add_str.or (op_catA.or op_cat))) rr_add ha hb
theorem ce_sub (ha : PE X a (tE X.K CA W ma)) (hb : PE X b (tE X.K CA W mb)) : PE X (.BinOp a .Sub b pos) (tE X.K CA W (mBin dSub ma mb)) := ce_bin op_sub rr_sub ha hb
theorem ce_mul (ha : PE X a (tE X.K CA W ma)) (hb : PE X b (tE X.K CA W mb)) : PE X (.BinOp a .Mult b pos) (tE X.K CA W (mBin dMul ma mb)) := ce_bin op_mul rr_mulI ha hb
theorem ce_mod (ha : PE X a (tE X.K CA W ma)) (hb : PE X b (tE X.K CA W mb)) : PE X (.BinOp a .Mod b pos) (tE X.K CA W (mBin dMod ma mb)) := ce_bin op_mod rr_mod ha hb
theorem ce_fdiv (ha : PE X a (tE X.K CA W ma)) (hb : PE X b (tE X.K CA W mb)) : PE X (.BinOp a .FloorDiv b pos) (tE X.K CA W (mBin dFdiv ma mb)) := ce_bin op_fdiv rr_fdiv ha hb
theorem ce_pow (ha : PE X a (tE X.K CA W ma)) (hb : PE X b (tE X.K CA W mb)) : PE X (.BinOp a .Pow b pos) (tE X.K CA W (mBin dPow ma mb)) := ce_bin op_pow rr_pow ha hb
theorem ce_shl (ha : PE X a (tE X.K CA W ma)) (hb : PE X b (tE X.K CA W mb)) : PE X (.BinOp a .LShift b pos) (tE X.K CA W (mBin dShl ma mb)) := ce_bin op_shl rr_shl ha hb
theorem ce_shr (ha : PE X a (tE X.K CA W ma)) (hb : PE X b (tE X.K CA W mb)) : PE X (.BinOp a .RShift b pos) (tE X.K CA W (mBin dShr ma mb)) := ce_bin op_shr rr_shr ha hb
theorem ce_band (ha : PE X a (tE X.K CA W ma)) (hb : PE X b (tE X.K CA W mb)) : PE X (.BinOp a .BitAnd b pos) (tE X.K CA W (mBin dAnd ma mb)) := ce_bin op_and rr_and ha hb
theorem ce_bor (ha : PE X a (tE X.K CA W ma)) (hb : PE X b (tE X.K CA W mb)) : PE X (.BinOp a .BitOr b pos) (tE X.K CA W (mBin dOr ma mb)) := ce_bin op_or rr_bor ha hb
theorem ce_bxor (ha : PE X a (tE X.K CA W ma)) (hb : PE X b (tE X.K CA W mb)) : PE X (.BinOp a .BitXor b pos) (tE X.K CA W (mBin dXor ma mb)) := ce_bin op_xor rr_xor ha hb
theorem ce_lt (ha : PE X a (tE X.K CA W ma)) (hb : PE X b (tE X.K CA W mb)) : PE X (.Compare a [.Lt] [b] pos) (tE X.K CA W (mBin dLtI ma mb)) := ce_cmp op_lt rr_ltI ha hb (nomark _)
theorem ce_le (ha : PE X a (tE X.K CA W ma)) (hb : PE X b (tE X.K CA W mb)) : PE X (.Compare a [.LtE] [b] pos) (tE X.K CA W (mBin dLeI ma mb)) := ce_cmp op_le rr_leI ha hb (nomark _)
theorem ce_gt (ha : PE X a (tE X.K CA W ma)) (hb : PE X b (tE X.K CA W mb)) : PE X (.Compare a [.Gt] [b] pos) (tE X.K CA W (mBin dGtI ma mb)) := ce_cmp op_gt rr_gtI ha hb (nomark _)
theorem ce_ge (ha : PE X a (tE X.K CA W ma)) (hb : PE X b (tE X.K CA W mb)) : PE X (.Compare a [.GtE] [b] pos) (tE X.K CA W (mBin dGeI ma mb)) := ce_cmp op_ge rr_geI ha hb (nomark _)
theorem ce_eq (hu : X.A.units + 64 < cLine) (ha : PE X a (tE X.K CA W ma)) (hb : PE X b (tE X.K CA W mb)) : PE X (.Compare a [.Eq] [b] pos) (tE X.K CA W (mBin dEq ma mb)) := ce_cmp (op_eqD hu) rr_eq ha hb (nomark _)
theorem ce_ne (hu : X.A.units + 64 < cLine) (ha : PE X a (tE X.K CA W ma)) (hb : PE X b (tE X.K CA W mb)) : PE X (.Compare a [.NotEq] [b] pos) (tE X.K CA W (mBin dNe ma mb)) := ce_cmp (op_neD hu) rr_ne ha hb (nomark _)
theorem ce_is (ha : PE X a (tE X.K CA W ma)) (hb : PE X b (tE X.K CA W mb)) : PE X (.Compare a [.Is] [b] pos) (tE X.K CA W (mBin dIs ma mb)) := ce_cmp op_isN rr_is ha hb (nomark _)
theorem ce_isnot (ha : PE X a (tE X.K CA W ma)) (hb : PE X b (tE X.K CA W mb)) : PE X (.Compare a [.IsNot] [b] pos) (tE X.K CA W (mBin dIsNot ma mb)) := ce_cmp op_notN rr_isNot ha hb (nomark _)
theorem ce_inL (hu : X.A.units + 65 < cLine) (ha : PE X a (tE X.K CA W ma)) (hb : PE X b (tE X.K CA W mb)) (hm : behindInMarks .In b = false := by rfl) : PE X (.Compare a [.In] [b] pos) (tE X.K CA W (mBin dInL ma mb)) := ce_cmp (op_inD hu) rr_inL ha hb hm
theorem ce_notInL (hu : X.A.units + 65 < cLine) (ha : PE X a (tE X.K CA W ma)) (hb : PE X b (tE X.K CA W mb)) (hm : behindInMarks .NotIn b = false := by rfl) : PE X (.Compare a [.NotIn] [b] pos) (tE X.K CA W (mBin dNotInL ma mb)) := ce_cmp (op_notInD hu) rr_notInL ha hb hm
def dNeg (x : D) (S : Store) : Out D := match x with
  | .int i => .ok (.int (-i)) S
  | _ => .bad
def dInv (x : D) (S : Store) : Out D := match x with
  | .int i => .ok (.int (Builtin.bitNot i)) S
  | _ => .bad
theorem ru_neg : RU X.K CA (rU fun i => .int (-i)) dNeg := fun α H S dx x Q E R rx q => by
  cases dx with
  | int i => exact ⟨i, rx, okE.val q R rfl⟩
  | _ => exact q.elim
theorem ru_inv : RU X.K CA (rU fun i => .int (Builtin.bitNot i)) dInv := fun α H S dx x Q E R rx q => by
  cases dx with
  | int i => exact ⟨i, rx, okE.val q R rfl⟩
  | _ => exact q.elim
theorem ce_neg (ha : PE X a (tE X.K CA W ma)) : PE X (.UnaryOp .USub a pos) (tE X.K CA W (mUn dNeg ma)) := ce_un un_neg ru_neg ha
theorem ce_inv (ha : PE X a (tE X.K CA W ma)) : PE X (.UnaryOp .Invert a pos) (tE X.K CA W (mUn dInv ma)) := ce_un un_inv ru_inv ha

/-! ### arguments, tuples, lists -/
theorem ca_nil : PA X [] (tA X.K CA W (mArgs [])) := pa_nil.imp fun σ H Q ⟨α, S, en, R, Er, q⟩ => q α H [] (Grow.refl _ _) R rfl
theorem ca_cons {es : List Expr} {m : ME} {ms : List ME} (he : PE X e (tE X.K CA W m)) (hr : PA X es (tA X.K CA W (mArgs ms))) (hs : starEach (e :: es) X.env = (false, eval e X.env) :: starEach es X.env := by rfl) : PA X (e :: es) (tA X.K CA W (mArgs (m :: ms))) :=
  (pa_cons he hr hs).imp fun σ H Q ⟨α, S, en, R, Er, q⟩ => ⟨α, S, en, R, Er, (okO.bind (R := RD X.K) q).imp fun x H1 ⟨d, S1, α1, g1, R1, r1, q1⟩ => ⟨α1, S1, en, R1, ERep.mono g1 _ _ Er, (okO.bind (R := RDs X.K) q1).imp fun xs H2 ⟨ds, S2, α2, g2, R2, r2, q2⟩ =>
    q2 α2 H2 (x :: xs) (Grow.refl _ _) R2 ⟨x, xs, rfl, Rep.mono g2 _ _ r1, r2⟩⟩⟩
theorem mArgs_len : ∀ {ms : List ME} {en : DEnv} {S S' : Store} {ds : List D}, mArgs ms en S = .ok ds S' → ds.length = ms.length
  | [], en, S, S', ds, h => by
    have h' : Out.ok [] S = Out.ok ds S' := h
    injection h' with h1 _
    rw [← h1] <;> rfl
  | m :: ms, en, S, S', ds, h => by
    have h' : ((m en S).bind fun x S1 => (mArgs ms en S1).bind fun xs S2 => Out.ok (x :: xs) S2) = Out.ok ds S' := h
    cases e1 : m en S with
    | ok d S1 =>
      rw [e1] at h'
      cases e2 : mArgs ms en S1 with
      | ok xs S2 =>
        have h2 : ((mArgs ms en S1).bind fun xs S2 => Out.ok (d :: xs) S2) = Out.ok ds S' := h'
        rw [e2] at h2
        have h3 : Out.ok (d :: xs) S2 = Out.ok ds S' := h2
        injection h3 with h4 _
        rw [← h4, List.length_cons, List.length_cons, mArgs_len e2]
      | exc c d2 S2 =>
        have h2 : ((mArgs ms en S1).bind fun xs S2 => Out.ok (d :: xs) S2) = Out.ok ds S' := h'
        rw [e2] at h2
        cases h2
      | bad =>
        have h2 : ((mArgs ms en S1).bind fun xs S2 => Out.ok (d :: xs) S2) = Out.ok ds S' := h'
        rw [e2] at h2
        cases h2
    | exc c d S1 => rw [e1] at h'; cases h'
    | bad => rw [e1] at h'; cases h'
/-- the arguments' number beside -/
theorem args_len {α : List Addr} {H : Hp} {ms : List ME} {en : DEnv} {S : Store} {Y' Z : Type} {R' : List Addr → Hp → Y' → Z → Prop} {f : List D → Store → Out Y'} {Q : Z → Hp → Prop} {E : XK} (q : okO X.K CA R' α H ((mArgs ms en S).bind f) Q E) :
    okA X.K CA α H (mArgs ms en S) (fun vs H' => vs.length = ms.length ∧ ∃ ds S' α', Grow α H α' H' ∧ HRep X.K CA α' H' S' ∧ RepAll X.K α' H' ds vs ∧ okO X.K CA R' α' H' (f ds S') Q E) E := by
  have q0 := okO.bind (R := RDs X.K) q
  cases e1 : mArgs ms en S with
  | ok ds S1 =>
    rw [e1] at q0
    exact fun α' H' vs g a b => ⟨(RepAll.length (show RepAll X.K α' H' ds vs from b)).trans (mArgs_len e1), q0 α' H' vs g a b⟩
  | exc c d S1 => rw [e1] at q0; exact q0
  | bad => rw [e1] at q0; exact q0
theorem ce_tup {es : List Expr} {ms : List ME} {x1} (h : PA X es (tA X.K CA W (mArgs ms))) (hl : ms.length ≤ LIM := by decide) : PE X (.Tuple es x1 pos) (tE X.K CA W (mTup ms)) := (pe_tup h).imp fun σ H Q ⟨α, S, en, R, Er, q⟩ =>
  ⟨α, S, en, R, Er, (args_len q).imp fun vs H1 ⟨l, ds, S1, α1, g1, R1, r1, q1⟩ => ⟨by rw [l]; exact lim_line hl, fun p hp => okE.tup q1 R1 hp r1⟩⟩
theorem ce_lst {es : List Expr} {ms : List ME} (h : PA X es (tA X.K CA W (mArgs ms))) (hl : ms.length ≤ LIM := by decide) : PE X (.List es pos) (tE X.K CA W (mLst ms)) := (pe_lst h).imp fun σ H Q ⟨α, S, en, R, Er, q⟩ =>
  ⟨α, S, en, R, Er, (args_len q).imp fun vs H1 ⟨l, ds, S1, α1, g1, R1, r1, q1⟩ => ⟨by rw [l]; exact lim_line hl, fun p hp => okE.cell q1 R1 hp (lst_new r1)⟩⟩
/-- a built-in function by its name -/
theorem ce_callB {x : Str} {p : Pos} {id : String} {r : List V → Hp → VK → Prop} {f : List D → Store → Out D} {es : List Expr} {ms : List ME} (hc : CallR X (.builtin id) r) (hr : RCall X.K CA r f) (hm : X.mg x = none) (hv : bootBuiltins x = some (.builtin id)) (ha : PA X (e :: es) (tA X.K CA W (mArgs ms))) (hg : Gl X x := by rfl) (hn : x ≠ "__name__" := by decide) (hdb : (x == ("__debug__" : Str)) = false := by decide)
    (he : starEach (e :: es) X.env = (false, eval e X.env) :: starEach es X.env := by rfl) (hpl : (backTo pos (starEach es X.env)).any (·.1) = false := by rfl) : PE X (.Call (.Name x p) (e :: es) [] pos) (tE X.K CA W (mCall f ms)) :=
  (pe_callB hc hg hm hv ha hn hdb he hpl).imp fun σ H Q ⟨α, S, en, R, Er, q⟩ => ⟨α, S, en, R, Er, (okO.bind (R := RDs X.K) q).imp fun vs H1 ⟨ds, S1, α1, g1, R1, r1, q1⟩ => hr α1 H1 S1 ds vs Q _ R1 r1 q1⟩
theorem ce_callTy {x : Str} {p : Pos} {id : String} {r : List V → Hp → VK → Prop} {f : List D → Store → Out D} {es : List Expr} {ms : List ME} (hc : CallR X (.type id) r) (hr : RCall X.K CA r f) (hm : X.mg x = none) (hv : bootBuiltins x = some (.type id)) (ha : PA X (e :: es) (tA X.K CA W (mArgs ms))) (hg : Gl X x := by rfl) (hn : x ≠ "__name__" := by decide) (hdb : (x == ("__debug__" : Str)) = false := by decide)
    (he : starEach (e :: es) X.env = (false, eval e X.env) :: starEach es X.env := by rfl) (hpl : (backTo pos (starEach es X.env)).any (·.1) = false := by rfl) : PE X (.Call (.Name x p) (e :: es) [] pos) (tE X.K CA W (mCall f ms)) :=
  (pe_callTy hc hg hm hv ha hn hdb he hpl).imp fun σ H Q ⟨α, S, en, R, Er, q⟩ => ⟨α, S, en, R, Er, (okO.bind (R := RDs X.K) q).imp fun vs H1 ⟨ds, S1, α1, g1, R1, r1, q1⟩ => hr α1 H1 S1 ds vs Q _ R1 r1 q1⟩

/-! ### tests -/
theorem ct_val (h : PE X e (tE X.K CA W ma)) (he : ∀ whole, isTrue e X.env whole = (do let v ← whole; standAt e.pos; holding [v] (truthy v)) := by intro _; rfl) : PT X e (tT X.K CA W (mTest ma)) := (pt_val h he).imp fun σ H Q ⟨α, S, en, R, Er, q⟩ =>
  ⟨α, S, en, R, Er, (okO.bind (R := RD X.K) q).imp fun x H1 ⟨d, S1, α1, g1, R1, r1, q1⟩ => by
    cases d with
    | bl b => exact ⟨b, r1, q1 α1 H1 b (Grow.refl _ _) R1 rfl⟩
    | _ => exact q1.elim⟩
theorem ct_cmp {op : CmpOp} {r : R2} {f : D → D → Store → Out D} (ho : OpR X (compareOp op) r) (hr : RR X.K CA r f) (ha : PE X a (tE X.K CA W ma)) (hb : PE X b (tE X.K CA W mb)) (hm : behindInMarks op b = false) : PT X (.Compare a [op] [b] pos) (tT X.K CA W (mTest (mBin f ma mb))) := (pt_cmpR ho ha hb hm).imp fun σ H Q ⟨α, S, en, R, Er, q⟩ =>
  two_of hr σ H _ ⟨α, S, en, R, Er, (okO.bind (R := RD X.K) q).imp fun x H1 ⟨d, S1, α1, g1, R1, r1, q1⟩ => by
    cases d with
    | bl b => exact ⟨b, r1, q1 α1 H1 b (Grow.refl _ _) R1 rfl⟩
    | _ => exact q1.elim⟩
theorem ct_lt (ha : PE X a (tE X.K CA W ma)) (hb : PE X b (tE X.K CA W mb)) : PT X (.Compare a [.Lt] [b] pos) (tT X.K CA W (mTest (mBin dLtI ma mb))) := ct_cmp op_lt rr_ltI ha hb (nomark _)
theorem ct_le (ha : PE X a (tE X.K CA W ma)) (hb : PE X b (tE X.K CA W mb)) : PT X (.Compare a [.LtE] [b] pos) (tT X.K CA W (mTest (mBin dLeI ma mb))) := ct_cmp op_le rr_leI ha hb (nomark _)
theorem ct_gt (ha : PE X a (tE X.K CA W ma)) (hb : PE X b (tE X.K CA W mb)) : PT X (.Compare a [.Gt] [b] pos) (tT X.K CA W (mTest (mBin dGtI ma mb))) := ct_cmp op_gt rr_gtI ha hb (nomark _)
theorem ct_ge (ha : PE X a (tE X.K CA W ma)) (hb : PE X b (tE X.K CA W mb)) : PT X (.Compare a [.GtE] [b] pos) (tT X.K CA W (mTest (mBin dGeI ma mb))) := ct_cmp op_ge rr_geI ha hb (nomark _)
theorem ct_eq (hu : X.A.units + 64 < cLine) (ha : PE X a (tE X.K CA W ma)) (hb : PE X b (tE X.K CA W mb)) : PT X (.Compare a [.Eq] [b] pos) (tT X.K CA W (mTest (mBin dEq ma mb))) := ct_cmp (op_eqD hu) rr_eq ha hb (nomark _)
theorem ct_ne (hu : X.A.units + 64 < cLine) (ha : PE X a (tE X.K CA W ma)) (hb : PE X b (tE X.K CA W mb)) : PT X (.Compare a [.NotEq] [b] pos) (tT X.K CA W (mTest (mBin dNe ma mb))) := ct_cmp (op_neD hu) rr_ne ha hb (nomark _)
theorem ct_is (ha : PE X a (tE X.K CA W ma)) (hb : PE X b (tE X.K CA W mb)) : PT X (.Compare a [.Is] [b] pos) (tT X.K CA W (mTest (mBin dIs ma mb))) := ct_cmp op_isN rr_is ha hb (nomark _)
theorem ct_isnot (ha : PE X a (tE X.K CA W ma)) (hb : PE X b (tE X.K CA W mb)) : PT X (.Compare a [.IsNot] [b] pos) (tT X.K CA W (mTest (mBin dIsNot ma mb))) := ct_cmp op_notN rr_isNot ha hb (nomark _)
theorem ct_inL (hu : X.A.units + 65 < cLine) (ha : PE X a (tE X.K CA W ma)) (hb : PE X b (tE X.K CA W mb)) (hm : behindInMarks .In b = false := by rfl) : PT X (.Compare a [.In] [b] pos) (tT X.K CA W (mTest (mBin dInL ma mb))) := ct_cmp (op_inD hu) rr_inL ha hb hm
theorem ct_notInL (hu : X.A.units + 65 < cLine) (ha : PE X a (tE X.K CA W ma)) (hb : PE X b (tE X.K CA W mb)) (hm : behindInMarks .NotIn b = false := by rfl) : PT X (.Compare a [.NotIn] [b] pos) (tT X.K CA W (mTest (mBin dNotInL ma mb))) := ct_cmp (op_notInD hu) rr_notInL ha hb hm
section
variable {ta tb : MT} {rest : List Expr}
theorem cw_and1 (ha : PT X a (tT X.K CA W ta)) : PW X (.BoolOp .And [a] pos) (tT X.K CA W ta) := pw_and1 ha
theorem cw_or1 (ha : PT X a (tT X.K CA W ta)) : PW X (.BoolOp .Or [a] pos) (tT X.K CA W ta) := pw_or1 ha
theorem cw_and (ha : PT X a (tT X.K CA W ta)) (hb : PW X (.BoolOp .And (b :: rest) pos) (tT X.K CA W tb)) : PW X (.BoolOp .And (a :: b :: rest) pos) (tT X.K CA W (mAndT ta tb)) := L2.PW.imp (pw_and ha hb) fun σ H Q ⟨α, S, en, R, Er, q⟩ =>
  ⟨α, S, en, R, Er, (okO.bind (R := RB) q).imp fun x H1 ⟨d, S1, α1, g1, R1, r1, q1⟩ => by
    subst r1
    cases d with
    | true => rw [if_pos rfl] at q1 ⊢; exact ⟨α1, S1, en, R1, ERep.mono g1 _ _ Er, q1⟩
    | false => rw [if_neg (by decide)] at q1 ⊢; exact q1 α1 H1 false (Grow.refl _ _) R1 rfl⟩
theorem cw_or (ha : PT X a (tT X.K CA W ta)) (hb : PW X (.BoolOp .Or (b :: rest) pos) (tT X.K CA W tb)) : PW X (.BoolOp .Or (a :: b :: rest) pos) (tT X.K CA W (mOrT ta tb)) := L2.PW.imp (pw_or ha hb) fun σ H Q ⟨α, S, en, R, Er, q⟩ =>
  ⟨α, S, en, R, Er, (okO.bind (R := RB) q).imp fun x H1 ⟨d, S1, α1, g1, R1, r1, q1⟩ => by
    subst r1
    cases d with
    | true => rw [if_pos rfl] at q1 ⊢; exact q1 α1 H1 true (Grow.refl _ _) R1 rfl
    | false => rw [if_neg (by decide)] at q1 ⊢; exact ⟨α1, S1, en, R1, ERep.mono g1 _ _ Er, q1⟩⟩
theorem ct_not (ha : PT X a (tT X.K CA W ta)) : PT X (.UnaryOp .Not a pos) (tT X.K CA W (mNotT ta)) := (pt_not ha).imp fun σ H Q ⟨α, S, en, R, Er, q⟩ =>
  ⟨α, S, en, R, Er, (okO.bind (R := RB) q).imp fun x H1 ⟨d, S1, α1, g1, R1, r1, q1⟩ => by
    subst r1
    exact q1 α1 H1 _ (Grow.refl _ _) R1 rfl⟩
/-- and, or, not as values -/
theorem ce_one {op} (h : PE X a (tE X.K CA W ma)) : PE X (.BoolOp op [a] pos) (tE X.K CA W ma) := pe_one h
theorem ce_and (ha : PE X a (tE X.K CA W ma)) (hb : PE X (.BoolOp .And (b :: rest) pos) (tE X.K CA W mb)) : PE X (.BoolOp .And (a :: b :: rest) pos) (tE X.K CA W (mAnd ma mb)) := L2.PE.imp (pe_and ha hb) fun σ H Q ⟨α, S, en, R, Er, q⟩ =>
  ⟨α, S, en, R, Er, (okO.bind (R := RD X.K) q).imp fun x H1 ⟨d, S1, α1, g1, R1, r1, q1⟩ => by
    cases d with
    | bl c =>
      refine ⟨c, r1, ?_⟩
      cases c with
      | true => rw [if_pos rfl]; exact ⟨α1, S1, en, R1, ERep.mono g1 _ _ Er, q1⟩
      | false => rw [if_neg (by decide)]; exact okE.val q1 R1 rfl
    | _ => exact q1.elim⟩
theorem ce_or (ha : PE X a (tE X.K CA W ma)) (hb : PE X (.BoolOp .Or (b :: rest) pos) (tE X.K CA W mb)) : PE X (.BoolOp .Or (a :: b :: rest) pos) (tE X.K CA W (mOr ma mb)) := L2.PE.imp (pe_or ha hb) fun σ H Q ⟨α, S, en, R, Er, q⟩ =>
  ⟨α, S, en, R, Er, (okO.bind (R := RD X.K) q).imp fun x H1 ⟨d, S1, α1, g1, R1, r1, q1⟩ => by
    cases d with
    | bl c =>
      refine ⟨c, r1, ?_⟩
      cases c with
      | true => rw [if_pos rfl]; exact okE.val q1 R1 rfl
      | false => rw [if_neg (by decide)]; exact ⟨α1, S1, en, R1, ERep.mono g1 _ _ Er, q1⟩
    | _ => exact q1.elim⟩
theorem ce_not (ha : PE X a (tE X.K CA W ma)) : PE X (.UnaryOp .Not a pos) (tE X.K CA W (mNot ma)) := L2.PE.imp (pe_not ha) fun σ H Q ⟨α, S, en, R, Er, q⟩ =>
  ⟨α, S, en, R, Er, (okO.bind (R := RD X.K) q).imp fun x H1 ⟨d, S1, α1, g1, R1, r1, q1⟩ => by
    cases d with
    | bl c => exact ⟨c, r1, okE.val q1 R1 rfl⟩
    | _ => exact q1.elim⟩
theorem ce_if {c : Expr} (hc : PT X c (tT X.K CA W ta)) (ha : PE X a (tE X.K CA W ma)) (hb : PE X b (tE X.K CA W mb)) : PE X (.IfExp c a b pos) (tE X.K CA W (mIf ta ma mb)) := L2.PE.imp (pe_ifExp hc ha hb) fun σ H Q ⟨α, S, en, R, Er, q⟩ =>
  ⟨α, S, en, R, Er, (okO.bind (R := RB) q).imp fun x H1 ⟨d, S1, α1, g1, R1, r1, q1⟩ => by
    subst r1
    cases d with
    | true => rw [if_pos rfl] at q1 ⊢; exact ⟨α1, S1, en, R1, ERep.mono g1 _ _ Er, q1⟩
    | false => rw [if_neg (by decide)] at q1 ⊢; exact ⟨α1, S1, en, R1, ERep.mono g1 _ _ Er, q1⟩⟩
end
/-- by truth, of any kind -/
theorem tru_of {α : List Addr} {H : Hp} {S : Store} {d : D} {x : V} {Q : Bool → Hp → Prop} {E : XK} (R : HRep X.K CA α H S) (r : Rep X.K α H d x) (q : okT X.K CA α H (dTru d S) Q E) : ∃ k, TruV X.K x H k ∧ Q k H := by
  cases d with
  | non => exact ⟨false, by rw [show x = .non from r]; rfl, q α H _ (Grow.refl _ _) R rfl⟩
  | bl b => exact ⟨b, by rw [show x = .bl b from r]; rfl, q α H _ (Grow.refl _ _) R rfl⟩
  | int i => exact ⟨i != 0, by rw [show x = .int i from r]; rfl, q α H _ (Grow.refl _ _) R rfl⟩
  | str z =>
    have q' : okT X.K CA α H (if z.length ≤ LIM then .ok ((z.length : Int) != 0) S else .bad) Q E := q
    by_cases hz : z.length ≤ LIM
    · rw [if_pos hz] at q'
      exact ⟨(z.length : Int) != 0, by rw [show x = .str z from r]; exact ⟨lim_line hz, rfl⟩, q' α H _ (Grow.refl _ _) R rfl⟩
    · rw [if_neg hz] at q'; exact q'.elim
  | tup xs =>
    obtain ⟨a, vs, rfl, t, ra⟩ := r
    refine ⟨!xs.isEmpty, .inr (.inl ⟨vs, SqT.of t, ?_⟩), q α H _ (Grow.refl _ _) R rfl⟩
    have l := ra.length
    cases xs <;> cases vs <;> simp_all
  | kt xs => exact q.elim
  | ref n =>
    obtain ⟨a, rfl, ha⟩ := r
    unfold dTru at q
    cases e : S[n]? with
    | none => simp only [e] at q; exact q.elim
    | some c =>
      simp only [e] at q
      cases c with
      | lst f xs =>
        obtain ⟨vs, sq, ra⟩ := sq_cell (R.ok n a _ ha e)
        refine ⟨!xs.isEmpty, .inl ⟨vs, sq, ?_⟩, q α H _ (Grow.refl _ _) R rfl⟩
        have l := ra.length
        cases xs <;> cases vs <;> simp_all
      | dk f kvs =>
        cases f with
        | true => exact q.elim
        | false =>
          obtain ⟨vs, h, ra⟩ := R.ok n a _ ha e
          refine ⟨!kvs.isEmpty, .inr (.inr ⟨vs, h, ?_⟩), q α H _ (Grow.refl _ _) R rfl⟩
          have l := congrArg List.length ra.1
          rw [List.length_map, List.length_map] at l
          cases kvs <;> cases vs <;> simp_all
      | dt f kvs => exact q.elim
      | obj c fs => exact q.elim
theorem ct_truth (ha : PE X a (tE X.K CA W ma)) (he : ∀ whole, isTrue a X.env whole = (do let v ← whole; standAt a.pos; holding [v] (truthy v)) := by intro _; rfl) : PT X a (tT X.K CA W (mTruth ma)) := (pt_truth ha he).imp fun σ H Q ⟨α, S, en, R, Er, q⟩ =>
  ⟨α, S, en, R, Er, (okO.bind (R := RD X.K) q).imp fun x H1 ⟨d, S1, α1, g1, R1, r1, q1⟩ => tru_of R1 r1 q1⟩

/-! ### items, slices, fields -/
theorem rr_ixL : RR X.K CA (rIxL X.K) dIxL := by
  intro α H S dx dy x y Q E R rx ry q
  cases dx with
  | ref n => cases dy with
    | int i =>
      obtain ⟨a, rfl, ha⟩ := rx
      unfold dIxL at q
      cases e : S[n]? with
      | none => simp only [e] at q; exact q.elim
      | some c => cases c with
        | lst f xs =>
          simp only [e] at q
          obtain ⟨vs, sq, ra⟩ := sq_cell (R.ok n a _ ha e)
          cases e2 : atI xs i with
          | none => simp only [e2] at q; exact q.elim
          | some d =>
            simp only [e2] at q
            obtain ⟨j, h1, h2⟩ := Option.bind_eq_some_iff.mp e2
            obtain ⟨v, h3, h4⟩ := RepAll.get ra h2
            refine ⟨a, vs, i, v, rfl, ry, sq, ?_, okE.val q R h4⟩
            show (ixN vs.length i).bind _ = _
            rw [ra.length, h1]
            exact h3
        | dk f kvs => simp only [e] at q; exact q.elim
        | dt f kvs => simp only [e] at q; exact q.elim
        | obj c fs => simp only [e] at q; exact q.elim
    | _ => exact q.elim
  | _ => exact (show False from q).elim
theorem rr_ixT : RR X.K CA (rIxT X.K) dIxT := by
  intro α H S dx dy x y Q E R rx ry q
  cases dx with
  | tup xs => cases dy with
    | int i =>
      obtain ⟨a, vs, rfl, sq, ra⟩ := rx
      have q' : okE X.K CA α H (match atI xs i with | some d => .ok d S | none => .bad) Q E := q
      cases e2 : atI xs i with
      | none => rw [e2] at q'; exact q'.elim
      | some d =>
        rw [e2] at q'
        obtain ⟨j, h1, h2⟩ := Option.bind_eq_some_iff.mp e2
        obtain ⟨v, h3, h4⟩ := RepAll.get ra h2
        refine ⟨a, vs, i, v, rfl, ry, SqT.of sq, ?_, okE.val q' R h4⟩
        show (ixN vs.length i).bind _ = _
        rw [ra.length, h1]
        exact h3
    | _ => exact q.elim
  | kt xs => cases dy with
    | int i =>
      obtain ⟨a, vs, rfl, sq, ra⟩ := rx
      have q' : okE X.K CA α H (match atI xs i with | some d => .ok d S | none => .bad) Q E := q
      cases e2 : atI xs i with
      | none => rw [e2] at q'; exact q'.elim
      | some d =>
        rw [e2] at q'
        obtain ⟨j, h1, h2⟩ := Option.bind_eq_some_iff.mp e2
        obtain ⟨v, h3, h4⟩ := RepAll.get ra h2
        refine ⟨a, vs, i, v, rfl, ry, (.inr sq), ?_, okE.val q' R h4⟩
        show (ixN vs.length i).bind _ = _
        rw [ra.length, h1]
        exact h3
    | _ => exact q.elim
  | _ => exact (show False from q).elim
theorem rr_ixS : RR X.K CA rIxS dIxS := by
  intro α H S dx dy x y Q E R rx ry q
  cases dx with
  | str z => cases dy with
    | int i =>
      have q' : okE X.K CA α H (match atI z.cps.toList i with | some c => iNeed (z.length ≤ LIM) (.str ⟨#[c]⟩) S | none => .bad) Q E := q
      cases e2 : atI z.cps.toList i with
      | none => rw [e2] at q'; exact q'.elim
      | some c =>
        rw [e2] at q'
        obtain ⟨k, q2⟩ := ok_iNeed q'
        exact ⟨z, i, c, rx, ry, lim_line k, e2, okE.val q2 R rfl⟩
    | _ => exact q.elim
  | _ => exact (show False from q).elim
theorem rr_ix : RR X.K CA (rIx X.K) dIx := by
  intro α H S dx dy x y Q E R rx ry q
  cases dx with
  | ref n => exact .inl (rr_ixL α H S _ dy x y Q E R rx ry q)
  | tup xs => exact .inr (.inl (rr_ixT α H S _ dy x y Q E R rx ry q))
  | kt xs => exact .inr (.inl (rr_ixT α H S _ dy x y Q E R rx ry q))
  | str z => exact .inr (.inr (rr_ixS α H S _ dy x y Q E R rx ry q))
  | _ => exact q.elim
theorem ce_ix (ha : PE X a (tE X.K CA W ma)) (hb : PE X b (tE X.K CA W mb)) (hs : PlainIx b := by intro _ _; rfl) : PE X (.Subscript a b pos) (tE X.K CA W (mBin dIx ma mb)) := (pe_ix ix_seq ha hb hs).imp (two_of rr_ix)
theorem cp_none : PO X none (fun σ H Q => ∃ α S en, HRep X.K CA α H S ∧ ERep X.K α H en σ ∧ okO X.K CA (fun _ _ x y => x = y) α H (mPart none en S) Q fun c d H' => W c d σ H') := ⟨fun pins s σ H Q I ⟨α, S, en, R, Er, q⟩ => po_none.run pins s σ H Q I (q α H none (Grow.refl _ _) R rfl)⟩
theorem cp_some {m : ME} (h : PE X e (tE X.K CA W m)) : PO X (some e) (fun σ H Q => ∃ α S en, HRep X.K CA α H S ∧ ERep X.K α H en σ ∧ okO X.K CA (fun _ _ x y => x = y) α H (mPart (some m) en S) Q fun c d H' => W c d σ H') :=
  ⟨fun pins s σ H Q I ⟨α, S, en, R, Er, q⟩ => (po_some h).run pins s σ H Q I ⟨α, S, en, R, Er, (okO.bind (R := RD X.K) q).imp fun x H1 ⟨d, S1, α1, g1, R1, r1, q1⟩ => by
    cases d with
    | int i => exact ⟨i, r1, q1 α1 H1 (some i) (Grow.refl _ _) R1 rfl⟩
    | _ => exact q1.elim⟩⟩
theorem RepAll.cut {K : PySem.W.Frag} {α : List Addr} {H : Hp} {ds : List D} {vs : List V} (r : RepAll K α H ds vs) (lo hi : Option Int) : RepAll K α H (cutD ds lo hi) (cutV vs lo hi) := by
  unfold cutD cutV
  rw [r.length]
  exact (r.drop _).take _
def rSlAll (K : PySem.W.Frag) : V → Option Int → Option Int → Hp → VK → Prop := fun x lo hi H Q => rSlL K x lo hi H Q ∨ (rSlA K x lo hi H Q ∨ rSlS x lo hi H Q)
theorem rsl_all {α : List Addr} {H : Hp} {S : Store} {dx : D} {x : V} {lo hi : Option Int} {Q : VK} {E : XK} (R : HRep X.K CA α H S) (rx : Rep X.K α H dx x) (q : okE X.K CA α H (dSl dx lo hi S) Q E) : rSlAll X.K x lo hi H Q := by
  cases dx with
  | ref n =>
    obtain ⟨a, rfl, ha⟩ := rx
    unfold dSl at q
    cases e : S[n]? with
    | none => simp only [e] at q; exact q.elim
    | some c => cases c with
      | lst f xs =>
        simp only [e] at q
        obtain ⟨vs, sq, ra⟩ := sq_cell (R.ok n a _ ha e)
        exact .inl ⟨a, vs, rfl, sq, fun p hp => okE.cell q R hp (lst_new (ra.cut lo hi))⟩
      | dk f kvs => simp only [e] at q; exact q.elim
      | dt f kvs => simp only [e] at q; exact q.elim
      | obj c fs => simp only [e] at q; exact q.elim
  | tup xs =>
    obtain ⟨a, vs, rfl, sq, ra⟩ := rx
    refine .inr (.inl ⟨a, vs, rfl, SqT.of sq, fun w => ?_, fun w p hp => okE.tup q R hp (ra.cut lo hi)⟩)
    have e : cutD xs lo hi = xs := by
      unfold cutD
      rw [ra.length] at w
      rw [w.1, w.2, List.drop_zero, Nat.sub_zero, List.take_length]
    have q' : okE X.K CA α H (.ok (.tup (cutD xs lo hi)) S) Q E := q
    rw [e] at q'
    exact okE.val q' R ⟨a, vs, rfl, sq, ra⟩
  | str z =>
    obtain ⟨k, q2⟩ := ok_iNeed (show okE X.K CA α H (iNeed _ _ S) Q E from q)
    exact .inr (.inr ⟨z, rx, lim_line k, okE.val q2 R rfl⟩)
  | _ => exact q.elim
theorem ce_sl {lo hi : Option Expr} {p2 : Pos} {ml mh : Option ME} (he : PE X e (tE X.K CA W ma)) (hl : PO X lo (fun σ H Q => ∃ α S en, HRep X.K CA α H S ∧ ERep X.K α H en σ ∧ okO X.K CA (fun _ _ x y => x = y) α H (mPart ml en S) Q fun c d H' => W c d σ H'))
    (hh : PO X hi (fun σ H Q => ∃ α S en, HRep X.K CA α H S ∧ ERep X.K α H en σ ∧ okO X.K CA (fun _ _ x y => x = y) α H (mPart mh en S) Q fun c d H' => W c d σ H')) : PE X (.Subscript e (.Slice lo hi none p2) pos) (tE X.K CA W (mSl ma ml mh)) :=
  (pe_slice (sl_list.or (sl_tupA.or sl_str)) he hl hh).imp fun σ H Q ⟨α, S, en, R, Er, q⟩ => ⟨α, S, en, R, Er, (okO.bind (R := RD X.K) q).imp fun x H1 ⟨d, S1, α1, g1, R1, r1, q1⟩ =>
    ⟨α1, S1, en, R1, ERep.mono g1 _ _ Er, (okO.bind (R := fun _ _ (x y : Option Int) => x = y) q1).imp fun l H2 ⟨l', S2, α2, g2, R2, r2, q2⟩ => by
      subst r2
      exact ⟨α2, S2, en, R2, ERep.mono g2 _ _ (ERep.mono g1 _ _ Er), (okO.bind (R := fun _ _ (x y : Option Int) => x = y) q2).imp fun u H3 ⟨u', S3, α3, g3, R3, r3, q3⟩ => by
        subst r3
        exact rsl_all R3 (Rep.mono g3 _ _ (Rep.mono g2 _ _ r1)) q3⟩⟩⟩
theorem lookup_kv {K : PySem.W.Frag} {α : List Addr} {H : Hp} {f : Str} : ∀ {fs : List (Str × D)} {vs : List (Str × V)} {d : D}, RepKV K α H fs vs → fs.lookup f = some d → ∃ v, vs.lookup f = some v ∧ Rep K α H d v
  | [], _, d, _, h => by simp at h
  | (k, x) :: fs, vs, d, ⟨e, v, r, e2, a, b⟩, h => by
    cases vs with
    | nil => simp at e2
    | cons p vs =>
      obtain ⟨k', y⟩ := p
      simp only [List.map_cons, List.cons.injEq] at e e2
      obtain ⟨rfl, e⟩ := e
      obtain ⟨rfl, e2⟩ := e2
      subst e2
      rw [List.lookup_cons] at h ⊢
      by_cases q : (f == k') = true
      · rw [q] at h ⊢
        simp at h
        subst h
        exact ⟨y, rfl, a⟩
      · rw [(Bool.eq_false_iff.mpr q)] at h ⊢
        exact lookup_kv ⟨e, b⟩ h
theorem lookup_kv_none {K : PySem.W.Frag} {α : List Addr} {H : Hp} {f : Str} : ∀ {fs : List (Str × D)} {vs : List (Str × V)}, RepKV K α H fs vs → fs.lookup f = none → vs.lookup f = none
  | [], vs, h, _ => by
    cases vs with
    | nil => rfl
    | cons p vs => have := h.1; simp at this
  | (k, x) :: fs, vs, ⟨e, v, r, e2, a, b⟩, h => by
    cases vs with
    | nil => rfl
    | cons p vs =>
      obtain ⟨k', y⟩ := p
      simp only [List.map_cons, List.cons.injEq] at e e2
      obtain ⟨rfl, e⟩ := e
      obtain ⟨rfl, e2⟩ := e2
      subst e2
      rw [List.lookup_cons] at h ⊢
      by_cases q : (f == k') = true
      · rw [q] at h
        simp at h
      · rw [(Bool.eq_false_iff.mpr q)] at h ⊢
        exact lookup_kv_none ⟨e, b⟩ h
/-- what the top has made of a class -/
structure ClassOk (K : PySem.W.Frag) (CA : Str → Addr) (names : List Str) : Prop where
  cls : ∀ c ∈ names, Cls K (CA c)
/-- o.f -/
def dFldC (names : List Str) (f : Str) (x : D) (S : Store) : Out D := match x with
  | .ref n => match S[n]? with
    | some (.obj c fs) => if c ∈ names then match fs.lookup f with
      | some d => .ok d S
      | none => .bad
      else .bad
    | _ => .bad
  | _ => .bad
theorem ce_fld {f : Str} {names : List Str} (he : PE X e (tE X.K CA W ma)) (hc : ∀ c ∈ names, Cls X.K (CA c) ∧ NoAttr X.K (CA c) f) (hb : attributeBase e f X.env (eval e X.env) = eval e X.env := by rfl) : PE X (.Attribute e f pos) (tE X.K CA W (mUn (dFldC names f) ma)) := (pe_fld he hb).imp fun σ H Q ⟨α, S, en, R, Er, q⟩ =>
  ⟨α, S, en, R, Er, (okO.bind (R := RD X.K) q).imp fun x H1 ⟨d, S1, α1, g1, R1, r1, q1⟩ => by
    cases d with
    | ref n =>
      obtain ⟨a, rfl, ha⟩ := r1
      unfold dFldC at q1
      cases e1 : S1[n]? with
      | none => simp only [e1] at q1; exact q1.elim
      | some c => cases c with
        | obj c fs =>
          simp only [e1] at q1
          by_cases hn : c ∈ names
          · rw [if_pos hn] at q1
            obtain ⟨dx, vs, h, rk⟩ := R1.ok n a _ ha e1
            cases e2 : fs.lookup f with
            | none => simp only [e2] at q1; exact q1.elim
            | some d =>
              simp only [e2] at q1
              obtain ⟨v, h1, h2⟩ := lookup_kv rk e2
              exact ⟨a, CA c, dx, vs, v, rfl, h, (hc c hn).1, (hc c hn).2, h1, okE.val q1 R1 h2⟩
          · rw [if_neg hn] at q1; exact q1.elim
        | lst f xs => simp only [e1] at q1; exact q1.elim
        | dk f kvs => simp only [e1] at q1; exact q1.elim
        | dt f kvs => simp only [e1] at q1; exact q1.elim
    | _ => exact q1.elim⟩
end
end M

/-! MStmt: statements, loops, comprehensions by their plain meanings. -/
namespace M
open PySem L2

def Out.fl {α : Type} (o : Out α) (e : DEnv) (f : α → Store → Fl) : Fl := match o with
  | .ok d S => f d S
  | .exc c d S => .exc c d e S
  | .bad => .bad
def mNil : MS := fun e S => .nx e S
def mSeq (a b : MS) : MS := fun e S => match a e S with
  | .nx e1 S1 => b e1 S1
  | f => f
def mSet (i : Nat) (m : ME) : MS := fun e S => (m e S).fl e fun d S1 => .nx (e.set i (some d)) S1
def mRet (m : ME) : MS := fun e S => (m e S).fl e fun d S1 => .rt d S1
def mRetN : MS := fun _ S => .rt .non S
def mDrop (m : ME) : MS := fun e S => (m e S).fl e fun _ S1 => .nx e S1
def mIfS (c : MT) (a b : MS) : MS := fun e S => (c e S).fl e fun k S1 => if k = true then a e S1 else b e S1
def mBreak : MS := fun e S => .bk e S
def mCont : MS := fun e S => .ct e S
/-- where a value goes: one slot, or a tuple's items to several -/
inductive Tg where
  | one (i : Nat)
  | many (is : List Nat)
def setAll : DEnv → List Nat → List D → DEnv
  | e, i :: is, d :: ds => setAll (e.set i (some d)) is ds
  | e, _, _ => e
def tgSet : Tg → D → DEnv → Option DEnv
  | .one i, d, e => some (e.set i (some d))
  | .many is, .tup ds, e => if ds.length = is.length then some (setAll e is ds) else none
  | .many _, _, _ => none
def mAsg (t : Tg) (m : ME) : MS := fun e S => (m e S).fl e fun d S1 => match tgSet t d e with
  | some e1 => .nx e1 S1
  | none => .bad
def gNames : List Nat → TGs
  | [] => gNil
  | i :: is => gCons (gName i) (gNames is)
def tgR (K : PySem.W.Frag) : Tg → TG
  | .one i => gName i
  | .many is => gTup K is.length (gNames is)
section
variable {K : PySem.W.Frag} {CA : Str → Addr} {α α1 : List Addr} {H H1 : Hp} {S : Store} {W : WX}
theorem names_ok {Q : St → Hp → Prop} : ∀ {is : List Nat} {ds : List D} {vs : List V} {e : DEnv} {σ : St}, ERep K α H e σ → RepAll K α H ds vs → ds.length = is.length → (∀ σ', ERep K α H (setAll e is ds) σ' → Q σ' H) → gNames is vs σ H Q
  | [], ds, vs, e, σ, Er, r, l, k => by
    have : ds = [] := List.length_eq_zero_iff.mp l
    subst this
    exact ⟨r, k σ Er⟩
  | i :: is, ds, vs, e, σ, Er, r, l, k => by
    cases ds with
    | nil => simp at l
    | cons d ds =>
      obtain ⟨v, r', rfl, a, b⟩ := r
      exact ⟨v, r', rfl, names_ok (ERep.set i Er (x := some d) (y := some v) a) b (by simpa using l) k⟩
theorem tg_ok {t : Tg} {d : D} {v : V} {e e' : DEnv} {σ : St} {Q : St → Hp → Prop} (Er : ERep K α H e σ) (r : Rep K α H d v) (h : tgSet t d e = some e') (k : ∀ σ', ERep K α H e' σ' → Q σ' H) : tgR K t v σ H Q := by
  cases t with
  | one i =>
    have : e.set i (some d) = e' := by simpa [tgSet] using h
    subst this
    exact k _ (ERep.set i Er (x := some d) (y := some v) r)
  | many is =>
    cases d with
    | tup ds =>
      rw [tgSet] at h
      by_cases l : ds.length = is.length
      · rw [if_pos l] at h
        cases h
        obtain ⟨a, vs, rfl, t, ra⟩ := r
        exact ⟨a, vs, rfl, SqT.of t, by rw [ra.length, l], names_ok Er ra l k⟩
      · rw [if_neg l] at h; cases h
    | _ => simp [tgSet] at h
theorem okS.fl {X' Y : Type} {R : List Addr → Hp → X' → Y → Prop} {o : Out X'} {e : DEnv} {σ : St} {f : X' → Store → Fl} {De : Ends} (Er : ERep K α H e σ) (h : okS K CA α H (o.fl e f) De W) :
    okO K CA R α H o (fun v H' => ∃ d S' α', Grow α H α' H' ∧ HRep K CA α' H' S' ∧ R α' H' d v ∧ okS K CA α' H' (f d S') De W) (fun c d H' => W c d σ H') := by
  cases o with
  | ok d S => exact fun α' H' v g a b => ⟨d, S, α', g, a, b, okS.mono g h⟩
  | exc c d S => exact fun α' H' dd v g a b x => h α' H' σ dd v g a (ERep.mono g _ _ Er) b x
  | bad => exact h
theorem okS.imp {f : Fl} {De De' : Ends} (h : okS K CA α H f De W) (i : ∀ σ H, De.nx σ H → De'.nx σ H) (j : ∀ v H, De.rt v H → De'.rt v H) (k : ∀ σ H, De.bk σ H → De'.bk σ H) (l : ∀ σ H, De.ct σ H → De'.ct σ H) : okS K CA α H f De' W := by
  cases f with
  | nx e S => exact fun α' H' σ' g a b => i _ _ (h α' H' σ' g a b)
  | rt d S => exact fun α' H' v g a b => j _ _ (h α' H' v g a b)
  | bk e S => exact fun α' H' σ' g a b => k _ _ (h α' H' σ' g a b)
  | ct e S => exact fun α' H' σ' g a b => l _ _ (h α' H' σ' g a b)
  | exc c d e S => exact h
  | bad => exact h
end

/-! ### loops -/
/-- the value that a row of ever better answers comes to -/
noncomputable def limF (f : Nat → Fl) : Fl := open Classical in if h : ∃ k, f k ≠ .bad then f (Classical.choose h) else .bad
theorem limF_ex (f : Nat → Fl) (h : limF f ≠ .bad) : ∃ k, limF f = f k := by
  unfold limF at h ⊢
  by_cases q : ∃ k, f k ≠ .bad
  · rw [dif_pos q]; exact ⟨_, rfl⟩
  · rw [dif_neg q] at h; exact absurd rfl h
theorem limF_le {f : Nat → Fl} (mono : ∀ k, f k ≠ .bad → f (k + 1) = f k) {k j : Nat} (h : f k ≠ .bad) (l : k ≤ j) : f j = f k := by
  induction l with
  | refl => rfl
  | step l ih => rw [mono _ (by rw [ih]; exact h), ih]
theorem limF_eq {f : Nat → Fl} (mono : ∀ k, f k ≠ .bad → f (k + 1) = f k) {k : Nat} (h : f k ≠ .bad) : limF f = f k := by
  unfold limF
  have q : ∃ k, f k ≠ .bad := ⟨k, h⟩
  rw [dif_pos q]
  have hc := Classical.choose_spec q
  rcases Nat.le_total k (Classical.choose q) with l | l
  · exact limF_le mono h l
  · exact (limF_le mono hc l).symm
theorem limF_bad {f : Nat → Fl} (h : ∀ k, f k = .bad) : limF f = .bad := by
  unfold limF
  rw [dif_neg]
  rintro ⟨k, q⟩
  exact q (h k)
/-- behind a turn of a loop -/
def turnF (f : Fl) (next : DEnv → Store → Fl) : Fl := match f with
  | .nx e S => next e S
  | .ct e S => next e S
  | .bk e S => .nx e S
  | f => f
theorem turnF_mono {f : Fl} {n n' : DEnv → Store → Fl} (h : ∀ e S, n e S ≠ .bad → n' e S = n e S) (q : turnF f n ≠ .bad) : turnF f n' = turnF f n := by
  cases f <;> first | rfl | exact h _ _ q
inductive ItD where
  | lst (n : Nat)
  | tup (ds : List D)
  | rng (lo : Int) (n : Nat)
/-- the i-th turn's item: none: nothing is known; some none: the end -/
def stepIt (S : Store) : ItD → Nat → Option (Option D)
  | .lst n, i => match S[n]? with
    | some (.lst _ xs) => some xs[i]?
    | _ => none
  | .tup ds, i => some ds[i]?
  | .rng lo n, i => some (if i < n then some (.int (lo + (i : Nat))) else none)
def forStep (it : ItD) (t : Tg) (b : MS) (i : Nat) (e : DEnv) (S : Store) (next : DEnv → Store → Fl) : Fl := match stepIt S it i with
  | none => .bad
  | some none => .nx e S
  | some (some d) => match tgSet t d e with
    | none => .bad
    | some e1 => turnF (b e1 S) next
def forN (it : ItD) (t : Tg) (b : MS) : Nat → Nat → DEnv → Store → Fl
  | 0, _, _, _ => .bad
  | k + 1, i, e, S => forStep it t b i e S (forN it t b k (i + 1))
theorem forStep_mono {it : ItD} {t : Tg} {b : MS} {i : Nat} {e : DEnv} {S : Store} {n n' : DEnv → Store → Fl} (h : ∀ e S, n e S ≠ .bad → n' e S = n e S) (q : forStep it t b i e S n ≠ .bad) : forStep it t b i e S n' = forStep it t b i e S n := by
  unfold forStep at q ⊢
  split <;> first | rfl | skip
  rename_i d hd
  simp only [hd] at q
  split <;> first | rfl | skip
  rename_i e1 he
  simp only [he] at q
  exact turnF_mono h q
theorem forN_mono {it : ItD} {t : Tg} {b : MS} : ∀ (k i : Nat) (e : DEnv) (S : Store), forN it t b k i e S ≠ .bad → forN it t b (k + 1) i e S = forN it t b k i e S
  | 0, _, _, _, h => absurd rfl h
  | k + 1, i, e, S, h => forStep_mono (fun e S => forN_mono k (i + 1) e S) h
noncomputable def mLoop (it : ItD) (t : Tg) (b : MS) (i : Nat) (e : DEnv) (S : Store) : Fl := limF fun k => forN it t b k i e S
theorem mLoop_eq (it : ItD) (t : Tg) (b : MS) (i : Nat) (e : DEnv) (S : Store) : mLoop it t b i e S = forStep it t b i e S (mLoop it t b (i + 1)) := by
  have key : ∀ k e S, forN it t b k (i + 1) e S ≠ .bad → mLoop it t b (i + 1) e S = forN it t b k (i + 1) e S := fun k e S h => limF_eq (fun k => forN_mono k (i + 1) e S) h
  by_cases q : ∃ k, forN it t b k i e S ≠ .bad
  · obtain ⟨k, h⟩ := q
    have e1 : mLoop it t b i e S = forN it t b k i e S := limF_eq (fun k => forN_mono k i e S) h
    rw [e1]
    cases k with
    | zero => exact absurd rfl h
    | succ k => exact (forStep_mono (fun e S => key k e S) h).symm
  · have q' : ∀ k, forN it t b k i e S = .bad := fun k => Classical.byContradiction fun z => q ⟨k, z⟩
    have e1 : mLoop it t b i e S = .bad := limF_bad q'
    rw [e1]
    refine Eq.symm ?_
    unfold forStep
    split <;> first | rfl | skip
    · rename_i hd
      have := q' 1
      rw [forN, forStep, hd] at this
      exact this
    · rename_i d hd
      split <;> first | rfl | skip
      rename_i e2 he
      have z : ∀ k, turnF (b e2 S) (forN it t b k (i + 1)) = .bad := fun k => by
        have := q' (k + 1)
        rw [forN, forStep, hd] at this
        simp only [he] at this
        exact this
      cases hb : b e2 S with
      | nx e3 S3 => rw [hb] at z; exact limF_bad z
      | ct e3 S3 => rw [hb] at z; exact limF_bad z
      | rt d S3 => rw [hb] at z; exact z 0
      | bk e3 S3 => rw [hb] at z; exact z 0
      | exc c d e3 S3 => rw [hb] at z; exact z 0
      | bad => rfl
/-- while -/
def whStep (c : MT) (b : MS) (e : DEnv) (S : Store) (next : DEnv → Store → Fl) : Fl := (c e S).fl e fun k S1 => if k = true then turnF (b e S1) next else .nx e S1
def whileN (c : MT) (b : MS) : Nat → DEnv → Store → Fl
  | 0, _, _ => .bad
  | k + 1, e, S => whStep c b e S (whileN c b k)
theorem whStep_mono {c : MT} {b : MS} {e : DEnv} {S : Store} {n n' : DEnv → Store → Fl} (h : ∀ e S, n e S ≠ .bad → n' e S = n e S) (q : whStep c b e S n ≠ .bad) : whStep c b e S n' = whStep c b e S n := by
  unfold whStep at q ⊢
  cases hc : c e S with
  | ok k S1 =>
    rw [hc] at q
    cases k with
    | true => exact turnF_mono h q
    | false => rfl
  | exc x d S1 => rfl
  | bad => rfl
theorem whileN_mono {c : MT} {b : MS} : ∀ (k : Nat) (e : DEnv) (S : Store), whileN c b k e S ≠ .bad → whileN c b (k + 1) e S = whileN c b k e S
  | 0, _, _, h => absurd rfl h
  | k + 1, e, S, h => whStep_mono (fun e S => whileN_mono k e S) h
noncomputable def mWhile (c : MT) (b : MS) : MS := fun e S => limF fun k => whileN c b k e S
theorem mWhile_eq (c : MT) (b : MS) (e : DEnv) (S : Store) : mWhile c b e S = whStep c b e S (mWhile c b) := by
  have key : ∀ k e S, whileN c b k e S ≠ .bad → mWhile c b e S = whileN c b k e S := fun k e S h => limF_eq (fun k => whileN_mono k e S) h
  by_cases q : ∃ k, whileN c b k e S ≠ .bad
  · obtain ⟨k, h⟩ := q
    rw [key k e S h]
    cases k with
    | zero => exact absurd rfl h
    | succ k => exact (whStep_mono (fun e S => key k e S) h).symm
  · have q' : ∀ k, whileN c b k e S = .bad := fun k => Classical.byContradiction fun z => q ⟨k, z⟩
    have e1 : mWhile c b e S = .bad := limF_bad q'
    rw [e1]
    refine Eq.symm ?_
    unfold whStep
    cases hc : c e S with
    | ok k S1 =>
      cases k with
      | false =>
        have := q' 1
        rw [whileN, whStep, hc] at this
        exact this
      | true =>
        have z : ∀ k, turnF (b e S1) (whileN c b k) = .bad := fun k => by
          have := q' (k + 1)
          rw [whileN, whStep, hc] at this
          exact this
        show turnF (b e S1) (mWhile c b) = .bad
        cases hb : b e S1 with
        | nx e3 S3 => rw [hb] at z; exact limF_bad z
        | ct e3 S3 => rw [hb] at z; exact limF_bad z
        | rt d S3 => rw [hb] at z; exact z 0
        | bk e3 S3 => rw [hb] at z; exact z 0
        | exc c d e3 S3 => rw [hb] at z; exact z 0
        | bad => rfl
    | exc x d S1 =>
      have := q' 1
      rw [whileN, whStep, hc] at this
      exact this
    | bad => rfl
abbrev MI := DEnv → Store → Out ItD
noncomputable def mFor (it : MI) (t : Tg) (b : MS) : MS := fun e S => (it e S).fl e fun x S1 => mLoop x t b 0 e S1
def miSeq (m : ME) : MI := fun e S => (m e S).bind fun d S1 => match d with
  | .ref n => match S1[n]? with
    | some (.lst _ _) => .ok (.lst n) S1
    | _ => .bad
  | _ => .bad
def miTup (m : ME) : MI := fun e S => (m e S).bind fun d S1 => match d with
  | .tup ds => .ok (.tup ds) S1
  | _ => .bad
def miRng1 (ms : List ME) : MI := fun e S => (mArgs ms e S).bind fun ds S1 => match ds with
  | [.int j] => if -(2 ^ 62) ≤ j ∧ j < 2 ^ 62 then .ok (.rng 0 j.toNat) S1 else .bad
  | _ => .bad
def miRng2 (ms : List ME) : MI := fun e S => (mArgs ms e S).bind fun ds S1 => match ds with
  | [.int i, .int j] => if -(2 ^ 62) ≤ i ∧ i < 2 ^ 62 ∧ -(2 ^ 62) ≤ j ∧ j < 2 ^ 62 then .ok (.rng i (j - i).toNat) S1 else .bad
  | _ => .bad
/-- list or tuple -/
def miAny (m : ME) : MI := fun e S => (m e S).bind fun d S1 => match d with
  | .ref n => match S1[n]? with
    | some (.lst _ _) => .ok (.lst n) S1
    | _ => .bad
  | .tup ds => .ok (.tup ds) S1
  | _ => .bad
section
variable (K : PySem.W.Frag) (CA : Str → Addr) (W : WX)
def RI (α : List Addr) (H : Hp) : ItD → It → Prop
  | .lst n, J => ∃ a, α[n]? = some a ∧ J = Itl K a
  | .tup ds, J => ∃ a vs, J = Itt K a ∧ SqT K H a vs ∧ RepAll K α H ds vs
  | .rng lo n, J => J = Itr lo n
def tI (m : MI) : TI := fun σ H R => ∃ α S e, HRep K CA α H S ∧ ERep K α H e σ ∧ okO K CA (RI K) α H (m e S) R fun c d H' => W c d σ H'
end
section
variable {K : PySem.W.Frag} {CA : Str → Addr} {α α1 : List Addr} {H H1 : Hp} {S : Store} {W : WX}
theorem RI.mono (g : Grow α H α1 H1) : ∀ {it : ItD} {J : It}, RI K α H it J → RI K α1 H1 it J
  | .lst n, J, ⟨a, h, e⟩ => ⟨a, g.get h, e⟩
  | .tup ds, J, ⟨a, vs, e, t, r⟩ => ⟨a, vs, e, g.sqt t, RepAll.mono g _ _ r⟩
  | .rng lo n, J, h => h
/-- the turn's item is what the iterator gives -/
theorem step_ok {it : ItD} {J : It} {i : Nat} (R : HRep K CA α H S) (h : RI K α H it J) : (stepIt S it i = some none → J.stop i H) ∧ ∀ d, stepIt S it i = some (some d) → J.go i H ∧ ∀ x H', J.yld i H x H' → H' = H ∧ Rep K α H d x := by
  cases it with
  | lst n =>
    obtain ⟨a, ha, rfl⟩ := h
    unfold stepIt
    cases e : S[n]? with
    | none => exact ⟨fun z => by simp [e] at z, fun d z => by simp [e] at z⟩
    | some c => cases c with
      | lst f xs =>
        obtain ⟨vs, sq, ra⟩ := sq_cell (R.ok n a _ ha e)
        refine ⟨fun z => ⟨vs, sq, ?_⟩, fun d z => ?_⟩
        · have z' : xs[i]? = none := by simpa [e] using z
          rw [ra.length]
          exact List.getElem?_eq_none_iff.mp z'
        · have z' : xs[i]? = some d := by simpa [e] using z
          obtain ⟨v, h1, h2⟩ := RepAll.get ra z'
          exact ⟨⟨vs, v, sq, h1⟩, fun x H' y => ⟨y.1, by
            have := y.2 vs sq
            rw [h1] at this
            cases this
            exact h2⟩⟩
      | dk f kvs => exact ⟨fun z => by simp [e] at z, fun d z => by simp [e] at z⟩
      | dt f kvs => exact ⟨fun z => by simp [e] at z, fun d z => by simp [e] at z⟩
      | obj c fs => exact ⟨fun z => by simp [e] at z, fun d z => by simp [e] at z⟩
  | tup ds =>
    obtain ⟨a, vs, rfl, t, ra⟩ := h
    refine ⟨fun z => ⟨vs, t, ?_⟩, fun d z => ?_⟩
    · have z' : ds[i]? = none := by simpa [stepIt] using z
      rw [ra.length]
      exact List.getElem?_eq_none_iff.mp z'
    · have z' : ds[i]? = some d := by simpa [stepIt] using z
      obtain ⟨v, h1, h2⟩ := RepAll.get ra z'
      exact ⟨⟨vs, v, t, h1⟩, fun x H' y => ⟨y.1, by
        have := y.2 vs t
        rw [h1] at this
        cases this
        exact h2⟩⟩
  | rng lo n =>
    have h' : J = Itr lo n := h
    subst h'
    by_cases l : i < n
    · refine ⟨fun z => by simp [stepIt, l] at z, fun d z => ⟨l, fun x H' y => ⟨y.1, ?_⟩⟩⟩
      have z' : D.int (lo + (i : Nat)) = d := by simpa [stepIt, l] using z
      rw [← z']
      exact y.2
    · exact ⟨fun z => Nat.le_of_not_lt l, fun d z => by simp [stepIt, l] at z⟩
theorem okS_turn {f : Fl} {De : Ends} {next : DEnv → Store → Fl} {N : St → Hp → Prop} (h : okS K CA α H (turnF f next) De W) (hn : ∀ e S α' H' σ', Grow α H α' H' → HRep K CA α' H' S → ERep K α' H' e σ' → okS K CA α' H' (next e S) De W → N σ' H') :
    okS K CA α H f { De with nx := N, ct := N, bk := De.nx } W := by
  cases f with
  | nx e S => exact fun α' H' σ' g a b => hn e S α' H' σ' g a b (okS.mono g h)
  | ct e S => exact fun α' H' σ' g a b => hn e S α' H' σ' g a b (okS.mono g h)
  | bk e S => exact h
  | rt d S => exact h
  | exc c d e S => exact h
  | bad => exact h
theorem loop_ok {it : ItD} {J : It} {t : Tg} {b : MS} {De : Ends} {e : DEnv} {σ : St} (R : HRep K CA α H S) (Er : ERep K α H e σ) (h : RI K α H it J) (q : okS K CA α H (mLoop it t b 0 e S) De W) :
    ∃ Wv : Nat → Nat → St → Hp → Prop, (∃ m, Wv 0 m σ H) ∧ ∀ i m σ H, Wv i m σ H →
      (J.stop i H ∧ De.nx σ H) ∨ (J.go i H ∧ ∃ N : St → Hp → Prop, (∀ σ' H', N σ' H' → ∃ m', m' < m ∧ Wv (i + 1) m' σ' H') ∧ ∀ x H', J.yld i H x H' → tgR K t x σ H' fun σ2 H2 => tS K CA W b { De with nx := N, ct := N, bk := De.nx } σ2 H2) := by
  have nb : mLoop it t b 0 e S ≠ .bad := fun z => by rw [z] at q; exact q
  obtain ⟨k, hk⟩ := limF_ex _ nb
  have q' : okS K CA α H (forN it t b k 0 e S) De W := by rw [← hk]; exact q
  refine ⟨fun i m σ H => ∃ α S e, HRep K CA α H S ∧ ERep K α H e σ ∧ RI K α H it J ∧ okS K CA α H (forN it t b m i e S) De W, ⟨k, α, S, e, R, Er, h, q'⟩, ?_⟩
  rintro i m σ H ⟨α, S, e, R, Er, h, q⟩
  obtain ⟨s1, s2⟩ := step_ok (i := i) R h
  cases m with
  | zero => exact q.elim
  | succ k =>
    rw [forN, forStep] at q
    cases e1 : stepIt S it i with
    | none => rw [e1] at q; exact q.elim
    | some o => cases o with
      | none =>
        rw [e1] at q
        exact .inl ⟨s1 e1, q α H σ (Grow.refl _ _) R Er⟩
      | some d =>
        rw [e1] at q
        obtain ⟨g1, g2⟩ := s2 d e1
        refine .inr ⟨g1, fun σ' H' => ∃ α S e, HRep K CA α H' S ∧ ERep K α H' e σ' ∧ RI K α H' it J ∧ okS K CA α H' (forN it t b k (i + 1) e S) De W, fun σ' H' z => ⟨k, Nat.lt_succ_self k, z⟩, fun x H' y => ?_⟩
        obtain ⟨rfl, rx⟩ := g2 x H' y
        cases e2 : tgSet t d e with
        | none => simp only [e2] at q; exact q.elim
        | some e1' =>
          simp only [e2] at q
          exact tg_ok Er rx e2 fun σ2 Er2 => ⟨α, S, e1', R, Er2, okS_turn q fun e3 S3 α3 H3 σ3 g3 R3 Er3 q3 => ⟨α3, S3, e3, R3, Er3, h.mono g3, q3⟩⟩
end
section
variable {X : Cx} {CA : Str → Addr} {W : WX} {e : Expr} {pos : Pos} {m : ME}
theorem ci_lst {tg : Expr} (h : PE X e (tE X.K CA W m)) : PI X tg e (tI X.K CA W (miSeq m)) := ⟨fun pins s σ H R' I ⟨α, S, en, R, Er, q⟩ => (pi_list h).run pins s σ H R' I ⟨α, S, en, R, Er, (okO.bind (R := RD X.K) q).imp fun x H1 ⟨d, S1, α1, g1, R1, r1, q1⟩ => by
    cases d with
    | ref n =>
      obtain ⟨a, rfl, ha⟩ := r1
      cases e1 : S1[n]? with
      | none => simp only [e1] at q1; exact q1.elim
      | some c => cases c with
        | lst f xs =>
          simp only [e1] at q1
          obtain ⟨vs, sq, ra⟩ := sq_cell (R1.ok n a _ ha e1)
          exact ⟨a, rfl, ⟨vs, sq⟩, q1 α1 H1 _ (Grow.refl _ _) R1 ⟨a, ha, rfl⟩⟩
        | dk f kvs => simp only [e1] at q1; exact q1.elim
        | dt f kvs => simp only [e1] at q1; exact q1.elim
        | obj c fs => simp only [e1] at q1; exact q1.elim
    | _ => exact q1.elim⟩⟩
theorem ci_tup {tg : Expr} (h : PE X e (tE X.K CA W m)) : PI X tg e (tI X.K CA W (miTup m)) := ⟨fun pins s σ H R' I ⟨α, S, en, R, Er, q⟩ => (pi_tup h).run pins s σ H R' I ⟨α, S, en, R, Er, (okO.bind (R := RD X.K) q).imp fun x H1 ⟨d, S1, α1, g1, R1, r1, q1⟩ => by
    cases d with
    | tup ds =>
      obtain ⟨a, vs, rfl, t, ra⟩ := r1
      exact ⟨a, rfl, ⟨vs, SqT.of t⟩, q1 α1 H1 _ (Grow.refl _ _) R1 ⟨a, vs, rfl, SqT.of t, ra⟩⟩
    | _ => exact q1.elim⟩⟩
/-- a list or a tuple -/
theorem ci_any {tg : Expr} (h : PE X e (tE X.K CA W m)) : PI X tg e (tI X.K CA W (miAny m)) := ⟨fun pins s σ H R' I ⟨α, S, en, R, Er, q⟩ => by
  have key : (tI X.K CA W (miSeq m) σ H R') ∨ (tI X.K CA W (miTup m) σ H R') := by
    cases e1 : m en S with
    | ok d S1 =>
      cases d with
      | tup ds => exact .inr ⟨α, S, en, R, Er, by unfold miTup; unfold miAny at q; rw [e1] at q ⊢; exact q⟩
      | _ => exact .inl ⟨α, S, en, R, Er, by unfold miSeq; unfold miAny at q; rw [e1] at q ⊢; exact q⟩
    | exc c d S1 => exact .inl ⟨α, S, en, R, Er, by unfold miSeq; unfold miAny at q; rw [e1] at q ⊢; exact q⟩
    | bad => unfold miAny at q; rw [e1] at q; exact q.elim
  exact key.elim ((ci_lst h).run pins s σ H R' I) ((ci_tup h).run pins s σ H R' I)⟩
theorem ci_rng1 {tg a : Expr} {ms : List ME} {p : Pos} (hm : X.mg "range" = none) (ha : PA X [a] (tA X.K CA W (mArgs ms))) (hg : Gl X "range" := by rfl) (hs : starEach [a] X.env = [(false, eval a X.env)] := by rfl) : PI X tg (.Call (.Name "range" p) [a] [] pos) (tI X.K CA W (miRng1 ms)) :=
  ⟨fun pins s σ H R' I ⟨α, S, en, R, Er, q⟩ => (pi_range1 hg hm ha hs).run pins s σ H R' I ⟨α, S, en, R, Er, (okO.bind (R := RDs X.K) q).imp fun vs H1 ⟨ds, S1, α1, g1, R1, r1, q1⟩ => by
    split at q1
    · rename_i j
      obtain ⟨v, rfl, rv⟩ := RepAll.one r1
      by_cases l : -(2 ^ 62) ≤ j ∧ j < 2 ^ 62
      · rw [if_pos l] at q1
        exact ⟨j, by rw [show v = .int j from rv], l.1, l.2, q1 α1 H1 _ (Grow.refl _ _) R1 rfl⟩
      · rw [if_neg l] at q1; exact q1.elim
    · exact q1.elim⟩⟩
theorem ci_rng2 {tg a b : Expr} {ms : List ME} {p : Pos} (hm : X.mg "range" = none) (ha : PA X [a, b] (tA X.K CA W (mArgs ms))) (hg : Gl X "range" := by rfl) (hs : starEach [a, b] X.env = [(false, eval a X.env), (false, eval b X.env)] := by rfl) (hs2 : starEach [b] X.env = [(false, eval b X.env)] := by rfl) : PI X tg (.Call (.Name "range" p) [a, b] [] pos) (tI X.K CA W (miRng2 ms)) :=
  ⟨fun pins s σ H R' I ⟨α, S, en, R, Er, q⟩ => (pi_range2 hg hm ha hs hs2).run pins s σ H R' I ⟨α, S, en, R, Er, (okO.bind (R := RDs X.K) q).imp fun vs H1 ⟨ds, S1, α1, g1, R1, r1, q1⟩ => by
    split at q1
    · rename_i i j
      obtain ⟨v, r, rfl, rv, rr⟩ := r1
      obtain ⟨w, rfl, rw'⟩ := RepAll.one rr
      by_cases l : -(2 ^ 62) ≤ i ∧ i < 2 ^ 62 ∧ -(2 ^ 62) ≤ j ∧ j < 2 ^ 62
      · rw [if_pos l] at q1
        exact ⟨i, j, by rw [show v = .int i from rv, show w = .int j from rw'], l, q1 α1 H1 _ (Grow.refl _ _) R1 rfl⟩
      · rw [if_neg l] at q1; exact q1.elim
    · exact q1.elim⟩⟩

/-! ### statements -/
variable {st : Stmt} {rest : List Stmt} {ma mb : ME} {sa sb : MS}
theorem cs_nil : PSs X [] (tS X.K CA W mNil) := pss_nil.imp fun De σ H ⟨α, S, en, R, Er, q⟩ => q α H σ (Grow.refl _ _) R Er
theorem cs_cons (h1 : PS X st (tS X.K CA W sa)) (h2 : PSs X rest (tS X.K CA W sb)) : PSs X (st :: rest) (tS X.K CA W (mSeq sa sb)) := (pss_cons h1 h2).imp fun De σ H ⟨α, S, en, R, Er, q⟩ => ⟨α, S, en, R, Er, by
  unfold mSeq at q
  cases e1 : sa en S with
  | nx e1' S1 => rw [e1] at q; exact fun α' H' σ' g a b => ⟨α', S1, e1', a, b, okS.mono g q⟩
  | rt d S1 => rw [e1] at q; exact q
  | bk e1' S1 => rw [e1] at q; exact q
  | ct e1' S1 => rw [e1] at q; exact q
  | exc c d e1' S1 => rw [e1] at q; exact q
  | bad => rw [e1] at q; exact q⟩
theorem cs_one (h1 : PS X st (tS X.K CA W sa)) : PSs X [st] (tS X.K CA W sa) := pss_one h1
theorem cs_pass : PS X (.Pass pos) (tS X.K CA W mNil) := ps_pass.imp fun De σ H ⟨α, S, en, R, Er, q⟩ => q α H σ (Grow.refl _ _) R Er
theorem cs_break : PS X (.Break pos) (tS X.K CA W mBreak) := ps_break.imp fun De σ H ⟨α, S, en, R, Er, q⟩ => q α H σ (Grow.refl _ _) R Er
theorem cs_continue : PS X (.Continue pos) (tS X.K CA W mCont) := ps_continue.imp fun De σ H ⟨α, S, en, R, Er, q⟩ => q α H σ (Grow.refl _ _) R Er
theorem cs_expr (he : PE X e (tE X.K CA W m)) (hs : swapsWith e none pos.line X.env = pure false := by rfl) : PS X (.Expr e pos) (tS X.K CA W (mDrop m)) := (ps_expr he hs).imp fun De σ H ⟨α, S, en, R, Er, q⟩ =>
  ⟨α, S, en, R, Er, (okS.fl (R := RD X.K) Er q).imp fun x H1 ⟨d, S1, α1, g1, R1, r1, q1⟩ => q1 α1 H1 σ (Grow.refl _ _) R1 (ERep.mono g1 _ _ Er)⟩
theorem cs_ret (he : PE X e (tE X.K CA W m)) : PS X (.Return (some e) pos) (tS X.K CA W (mRet m)) := (ps_ret he).imp fun De σ H ⟨α, S, en, R, Er, q⟩ =>
  ⟨α, S, en, R, Er, (okS.fl (R := RD X.K) Er q).imp fun x H1 ⟨d, S1, α1, g1, R1, r1, q1⟩ => q1 α1 H1 x (Grow.refl _ _) R1 r1⟩
theorem cs_retN : PS X (.Return none pos) (tS X.K CA W mRetN) := ps_retN.imp fun De σ H ⟨α, S, en, R, Er, q⟩ => q α H .non (Grow.refl _ _) R rfl
theorem cs_if {c : Expr} {a b : List Stmt} {mc : MT} (hc : PT X c (tT X.K CA W mc)) (ha : PSs X a (tS X.K CA W sa)) (hb : PSs X b (tS X.K CA W sb)) : PS X (.If c a b pos) (tS X.K CA W (mIfS mc sa sb)) := (ps_if hc ha hb).imp fun De σ H ⟨α, S, en, R, Er, q⟩ =>
  ⟨α, S, en, R, Er, (okS.fl (R := RB) Er q).imp fun x H1 ⟨d, S1, α1, g1, R1, r1, q1⟩ => by
    subst r1
    cases d with
    | true => rw [if_pos rfl] at q1 ⊢; exact ⟨α1, S1, en, R1, ERep.mono g1 _ _ Er, q1⟩
    | false => rw [if_neg (by decide)] at q1 ⊢; exact ⟨α1, S1, en, R1, ERep.mono g1 _ _ Er, q1⟩⟩
theorem cs_set {i : Nat} {x : Str} {pos' : Pos} (hN : X.N.Nodup) (he : PE X e (tE X.K CA W m)) (hi : X.N[i]? = some x := by rfl) (hx : Loc X.env.scope x := by first | exact Or.inl rfl | exact Or.inr rfl) (hs : swapsWith e (some (.Name x pos')) pos.line X.env = pure false := by rfl) (hf : X.fn x = true ∨ X.env.scope.names.lookup x = some .local := by first | exact .inl rfl | exact .inr rfl) :
    PS X (.Assign [.Name x pos'] e pos) (tS X.K CA W (mSet i m)) := (ps_set hN hi hx he hs hf).imp fun De σ H ⟨α, S, en, R, Er, q⟩ =>
  ⟨α, S, en, R, Er, (okS.fl (R := RD X.K) Er q).imp fun x H1 ⟨d, S1, α1, g1, R1, r1, q1⟩ => q1 α1 H1 _ (Grow.refl _ _) R1 (ERep.set i (ERep.mono g1 _ _ Er) (x := some d) (y := some x) r1)⟩
theorem cg_nil : PGs X [] (gNames []) := pgs_nil
theorem cg_cons {x : Str} {i : Nat} {es : List Expr} {is : List Nat} (hN : X.N.Nodup) (h : PGs X es (gNames is)) (hi : X.N[i]? = some x := by rfl) (hx : Loc X.env.scope x := by first | exact Or.inl rfl | exact Or.inr rfl) (hf : X.fn x = true ∨ X.env.scope.names.lookup x = some .local := by first | exact .inl rfl | exact .inr rfl)
    (hs : (assignEach (.Name x pos :: es) X.env).map (·.2) = assign (.Name x pos) X.env :: (assignEach es X.env).map (·.2) := by rfl) : PGs X (.Name x pos :: es) (gNames (i :: is)) := pgs_cons (pg_name hN hi hx hf) h hs
theorem cg_tup {es : List Expr} {k : Nat} {is : List Nat} (hc : X.calm = true) (h : PGs X es (gNames is)) (hn : (assignEach es X.env).length = is.length := by rfl) (hst : (assignEach es X.env).findIdx? (·.1) = none := by rfl) : PG X (.Tuple es k pos) (tgR X.K (.many is)) := pg_tup hc h hn hst
theorem cg_name {x : Str} {i : Nat} (hN : X.N.Nodup) (hi : X.N[i]? = some x := by rfl) (hx : Loc X.env.scope x := by first | exact Or.inl rfl | exact Or.inr rfl) (hf : X.fn x = true ∨ X.env.scope.names.lookup x = some .local := by first | exact .inl rfl | exact .inr rfl) : PG X (.Name x pos) (tgR X.K (.one i)) := pg_name hN hi hx hf
theorem cs_asg {tg : Expr} {t : Tg} (he : PE X e (tE X.K CA W m)) (hg : PG X tg (tgR X.K t)) (hs : swapsWithSole [tg] e pos.line X.env = pure false := by rfl) (hw : swappedStores [tg] e X.env = pure none := by rfl)
    (h1 : (assignEach [tg] X.env).map (·.2) = [assign tg X.env] := by rfl) : PS X (.Assign [tg] e pos) (tS X.K CA W (mAsg t m)) := (ps_asg he hg hs hw h1).imp fun De σ H ⟨α, S, en, R, Er, q⟩ =>
  ⟨α, S, en, R, Er, (okS.fl (R := RD X.K) Er q).imp fun x H1 ⟨d, S1, α1, g1, R1, r1, q1⟩ => by
    cases e1 : tgSet t d en with
    | none => simp only [e1] at q1; exact q1.elim
    | some e2 =>
      simp only [e1] at q1
      exact tg_ok (ERep.mono g1 _ _ Er) r1 e1 fun σ' Er' => q1 α1 H1 σ' (Grow.refl _ _) R1 Er'⟩
theorem cs_for {iter tg : Expr} {body : List Stmt} {mi : MI} {t : Tg} (hp : PassesOwn (model X.prog X.w) X.A X.env X.xe) (hc : X.calm = true) (hi : PI X tg iter (tI X.K CA W mi)) (hg : PG X tg (tgR X.K t)) (hb : PSs X body (tS X.K CA W sb)) (hs : ∀ x, foldedSetIterable iter X.env x = pure x := by intro _; rfl) :
    PS X (.For tg iter body [] pos) (tS X.K CA W (mFor mi t sb)) := (ps_for hp hc hi hg hb hs).imp fun De σ H ⟨α, S, en, R, Er, q⟩ =>
  ⟨α, S, en, R, Er, (okS.fl (R := RI X.K) Er q).imp fun J H1 ⟨it, S1, α1, g1, R1, r1, q1⟩ => loop_ok R1 (ERep.mono g1 _ _ Er) r1 q1⟩
theorem cs_while {c : Expr} {body : List Stmt} {mc : MT} (hp : PassesOwn (model X.prog X.w) X.A X.env X.xe) (hc : PT X c (tT X.K CA W mc)) (hb : PSs X body (tS X.K CA W sb)) : PS X (.While c body [] pos) (tS X.K CA W (mWhile mc sb)) := (ps_while hp hc hb).imp fun De σ H ⟨α, S, en, R, Er, q⟩ => by
  have nb : mWhile mc sb en S ≠ .bad := fun z => by rw [z] at q; exact q
  obtain ⟨k, hk⟩ := limF_ex _ nb
  have q' : okS X.K CA α H (whileN mc sb k en S) De W := by rw [← hk]; exact q
  refine ⟨fun m σ H => ∃ α S e, HRep X.K CA α H S ∧ ERep X.K α H e σ ∧ okS X.K CA α H (whileN mc sb m e S) De W, ⟨k, α, S, en, R, Er, q'⟩, ?_⟩
  rintro m σ H ⟨α, S, e, R, Er, q⟩
  cases m with
  | zero => exact q.elim
  | succ k =>
    rw [whileN, whStep] at q
    refine ⟨α, S, e, R, Er, (okS.fl (R := RB) Er q).imp fun x H1 ⟨d, S1, α1, g1, R1, r1, q1⟩ => ?_⟩
    subst r1
    cases d with
    | false =>
      rw [if_neg (by decide)] at q1 ⊢
      exact q1 α1 H1 σ (Grow.refl _ _) R1 (ERep.mono g1 _ _ Er)
    | true =>
      rw [if_pos rfl] at q1 ⊢
      refine ⟨fun σ' H' => ∃ α S e, HRep X.K CA α H' S ∧ ERep X.K α H' e σ' ∧ okS X.K CA α H' (whileN mc sb k e S) De W, fun σ' H' z => ⟨k, Nat.lt_succ_self k, z⟩, ?_⟩
      exact ⟨α1, S1, e, R1, ERep.mono g1 _ _ Er, okS_turn q1 fun e3 S3 α3 H3 σ3 g3 R3 Er3 q3 => ⟨α3, S3, e3, R3, Er3, q3⟩⟩
end
end M

/-! MDefs: defs, calls, methods, new objects, fields, comprehensions by their plain meanings. -/
namespace M
open PySem L2
open PyProof.Rows (envOfC)

/-! ### a def's promise: it does what f says -/
def spM (K : PySem.W.Frag) (CA : Str → Addr) (f : List D → Store → Out D) : Sp := fun vs H Q E => ∃ α S ds, HRep K CA α H S ∧ RepAll K α H ds vs ∧ okE K CA α H (f ds S) Q E
/-- what a def's body hands back -/
def outF (f : Fl) : Out D := match f with
  | .nx _ S' => .ok .non S'
  | .rt d S' => .ok d S'
  | .exc c d _ S' => .exc c d S'
  | _ => .bad
/-- a body run: n parameters, tot names -/
def runDef (n tot : Nat) (b : MS) (ds : List D) (S : Store) : Out D := if ds.length = n then outF (b (ds.map some ++ List.replicate (tot - n) none) S) else .bad
structure GDef (P : Program) (w : World) (K : PySem.W.Frag) (mg : Str → Option Value) (base : Heap) (CA : Str → Addr) (k : Nat) (x : Str) (f : List D → Store → Out D) (dds : List D) : Prop where
  ex : ∃ (a : Addr) (fd : FuncData) (ps : List Str) (ds : List Value) (dvs : List V), FnOk P w K mg base (L2.CX P w) k a fd ps (spM K CA f) ∧ mg x = some (.ref a) ∧ PySem.W.keepIn K (.ref a) = true ∧ Binds K fd ps ds ∧ Vals dvs ds ∧ ∀ α H, RepAll K α H dds dvs
structure GMeth (P : Program) (w : World) (K : PySem.W.Frag) (mg : Str → Option Value) (base : Heap) (CA : Str → Addr) (k : Nat) (c m : Str) (f : List D → Store → Out D) (dds : List D) : Prop where
  ex : ∃ (a : Addr) (fd : FuncData) (ps : List Str) (ds : List Value) (dvs : List V), FnOk P w K mg base (L2.CX P w) k a fd ps (spM K CA f) ∧ Cls K (CA c) ∧ Meth K (CA c) m a ∧ Binds K fd ps ds ∧ Vals dvs ds ∧ ∀ α H, RepAll K α H dds dvs
structure GMake (P : Program) (w : World) (K : PySem.W.Frag) (mg : Str → Option Value) (base : Heap) (CA : Str → Addr) (k : Nat) (c : Str) (f : List D → Store → Out D) (dds : List D) : Prop where
  ex : ∃ (a : Addr) (fd : FuncData) (ps : List Str) (ds : List Value) (dvs : List V), FnOk P w K mg base (L2.CX P w) k a fd ps (spM K CA f) ∧ mg c = some (.ref (CA c)) ∧ Mk K (CA c) a ∧ Binds K fd ps ds ∧ Vals dvs ds ∧ ∀ α H, RepAll K α H dds dvs
section
variable {P : Program} {w : World} {K : PySem.W.Frag} {mg : Str → Option Value} {base : Heap} {CA : Str → Addr}
theorem spM_len {n tot : Nat} {b : MS} {vs : List V} {H : Hp} {Q : VK} {E : XK} (h : spM K CA (runDef n tot b) vs H Q E) : vs.length = n := by
  obtain ⟨α, S, ds, R, r, q⟩ := h
  unfold runDef at q
  by_cases l : ds.length = n
  · rw [r.length, l]
  · rw [if_neg l] at q; exact q.elim
/-- THE RULE: a def does what its body's plain meaning says -/
theorem def_ok {x qual : Str} {st : Stmt} {f : Addr} {fd : FuncData} {N ps : List Str} {k : Nat} {b : MS} (F : Fun K x qual st f fd) (Sc : FnScope N ps (defScope st))
    (hb : ∀ (cdv : Value) (A : Around) (outer : List Env) (s : Shared) (H : Hp) (E : XK), Room k (A.deeper (envOfC qual (defScope st) s.heap.objs.size f cdv)) →
      PSs (cxOf (L2.CX P w) P w K mg base N qual (defScope st) f cdv A outer s H E) (defBody st) (tS K CA (fun c d _ H' => E c d H') b)) : FnOk P w K mg base (L2.CX P w) (k + 1) f fd ps (spM K CA (runDef ps.length N.length b)) := by
  refine F.okX Sc (fun vs H Q E h => spM_len h) fun cdv A outer s H vs Q E hr h => ⟨_, hb cdv A outer s H E hr, ?_⟩
  have hl := spM_len h
  obtain ⟨α, S, ds, R, r, q⟩ := h
  unfold runDef at q
  have l : ds.length = ps.length := by rw [← r.length, hl]
  rw [if_pos l] at q
  refine ⟨α, S, ds.map some ++ List.replicate (N.length - ps.length) none, R, ?_, ?_⟩
  · show ERep K α H _ (vs.map some ++ List.replicate (N.length - vs.length) none)
    rw [hl]
    exact ERep.of_all _ r
  · cases e : b (ds.map some ++ List.replicate (N.length - ps.length) none) S with
    | nx e1 S1 => rw [e] at q; exact fun α' H' σ' g a _ => q α' H' .non g a rfl
    | rt d S1 => rw [e] at q; exact fun α' H' v g a r => q α' H' v g a r
    | exc c d e1 S1 => rw [e] at q; exact fun α' H' σ' dd v g a _ r x => q α' H' dd v g a r x
    | bk e1 S1 => rw [e] at q; exact q.elim
    | ct e1 S1 => rw [e] at q; exact q.elim
    | bad => rw [e] at q; exact q.elim
theorem def_is {x qual : Str} {st : Stmt} {f : Addr} {fd : FuncData} {N ps : List Str} {k n tot : Nat} {b : MS} (F : Fun K x qual st f fd) (Sc : FnScope N ps (defScope st)) (hn : ps.length = n) (ht : N.length = tot)
    (hb : ∀ (cdv : Value) (A : Around) (outer : List Env) (s : Shared) (H : Hp) (E : XK), Room k (A.deeper (envOfC qual (defScope st) s.heap.objs.size f cdv)) →
      PSs (cxOf (L2.CX P w) P w K mg base N qual (defScope st) f cdv A outer s H E) (defBody st) (tS K CA (fun c d _ H' => E c d H') b)) : FnOk P w K mg base (L2.CX P w) (k + 1) f fd ps (spM K CA (runDef n tot b)) := by
  subst hn
  subst ht
  exact def_ok F Sc hb
theorem FnOk.gdef {a : Addr} {fd : FuncData} {ps : List Str} {k : Nat} {x : Str} {f : List D → Store → Out D} (h : FnOk P w K mg base (L2.CX P w) k a fd ps (spM K CA f)) (hm : mg x = some (.ref a)) (hk : PySem.W.keepIn K (.ref a) = true) (hb : Binds K fd ps []) : GDef P w K mg base CA k x f [] := ⟨a, fd, ps, [], [], h, hm, hk, hb, .nil, fun _ _ => rfl⟩
end

/-! ### calls -/
section
variable {X : Cx} {k : Nat} {f C : Addr} {fd : FuncData} {ps : List Str} {sp : Sp} {dvs : List V} {ds : List Value} {W : WX} {x m : Str} {p pos apos : Pos} {e o : Expr} {es : List Expr} {ta : TE} {t : TA}
theorem run_fnW {pins : List (Addr × Obj)} {σ : St} {H : Hp} {s : Shared} {Q : VK} {us : List Value} {vs : List V} (F : FnOk X.prog X.w X.K X.mg X.base (L2.CX X.prog X.w) k f fd ps sp) (hr : Room k X.A) (hb : Binds X.K fd ps ds) (hd : Vals dvs ds) (tk : Takes X W)
    (I : Inv X pins σ H s) (r : Vals vs us) (h : sp (vs ++ dvs) H Q (WE W σ)) : wpAny (model X.prog X.w) X.A (call (.ref f) us) (EP X pins σ Q) X.xe s := by
  have r2 : Vals (vs ++ dvs) (us ++ ds) := r.append hd
  have hl : (us ++ ds).length = ps.length := by rw [← r2.length]; exact F.len _ _ _ _ h
  refine wpAny_call (codeAny_mono (F.run X.A X.stack s H ⟨us, []⟩ (us ++ ds) (vs ++ dvs) Q (WE W σ) hr I.env0 (hb s us I.kIn hl) r2 h) fun r s' hq => ?_)
  cases r with
  | error e => exact passAt tk σ pins H s e s' I hq
  | ok fl =>
    cases fl with
    | ret u => exact I.after hq
    | next => exact False.elim hq
    | brk => exact False.elim hq
    | cont => exact False.elim hq
def tCallW (sp : Sp) (dvs : List V) (W : WX) (t : TA) : TE := fun σ H Q => t σ H fun vs H1 => sp (vs ++ dvs) H1 Q (WE W σ)
theorem pe_callW (F : FnOk X.prog X.w X.K X.mg X.base (L2.CX X.prog X.w) k f fd ps sp) (hr : Room k X.A) (hg : Gl X x) (hm : X.mg x = some (.ref f)) (hk : PySem.W.keepIn X.K (.ref f) = true) (hb : Binds X.K fd ps ds) (hd : Vals dvs ds) (tk : Takes X W)
    (ha : PA X (e :: es) t) (hdb : (x == ("__debug__" : Str)) = false := by decide) (he : starEach (e :: es) X.env = (false, eval e X.env) :: starEach es X.env := by rfl) (hpl : (backTo pos (starEach es X.env)).any (·.1) = false := by rfl) :
    PE X (.Call (.Name x p) (e :: es) [] pos) (tCallW sp dvs W t) := by
  refine ⟨fun pins s σ H Q I h => ?_⟩
  refine wpAny_Call_Name_kw (ld_glob I hg hm ?_ hdb)
  refine PySem.W.callWith_K (h₀ := X.base) I.ok.mod.kin hk (thn (ha.run pos pins s σ H _ I h) fun us s1 ⟨vs, H1, I1, r, q⟩ => ⟨I1.kIn, ?_⟩) he hpl
  exact run_fnW F hr hb hd tk I1 r q
theorem pe_callW0 (F : FnOk X.prog X.w X.K X.mg X.base (L2.CX X.prog X.w) k f fd ps sp) (hr : Room k X.A) (hg : Gl X x) (hm : X.mg x = some (.ref f)) (hk : PySem.W.keepIn X.K (.ref f) = true) (hb : Binds X.K fd ps ds) (hd : Vals dvs ds) (tk : Takes X W)
    (hdb : (x == ("__debug__" : Str)) = false := by decide) : PE X (.Call (.Name x p) [] [] pos) (tCallW sp dvs W tNil) := by
  refine ⟨fun pins s σ H Q I h => ?_⟩
  refine wpAny_Call_Name_kw (ld_glob I hg hm ?_ hdb)
  exact PySem.W.callWith_K0 I.kIn hk (run_fnW (us := []) F hr hb hd tk I .nil h)
def tMethW (C : Addr) (m : Str) (sp : Sp) (dvs : List V) (W : WX) (ta : TE) (t : TA) : TE := fun σ H Q => ta σ H fun x H1 => ∃ a dx fs, x = .ref a ∧ H1 a = some (.ins C dx fs) ∧ fs.lookup m = none ∧
  t σ H1 fun vs H2 => sp (x :: (vs ++ dvs)) H2 Q (WE W σ)
theorem pe_methW {pl : Sem Bool} (he : PE X o ta) (c : Cls X.K C) (hm : Meth X.K C m f) (F : FnOk X.prog X.w X.K X.mg X.base (L2.CX X.prog X.w) k f fd ps sp) (hr : Room k X.A) (hb : Binds X.K fd ps ds) (hd : Vals dvs ds) (tk : Takes X W) (ha : PA X (e :: es) t)
    (hst : starEach (e :: es) X.env = (false, eval e X.env) :: starEach es X.env) (hpl : (backTo pos (starEach es X.env)).any (·.1) = false)
    (ht : eval (.Call (.Attribute o m apos) (e :: es) [] pos) X.env = (do
      let ov ← eval o X.env
      standAt apos.atName
      let (f, first) ← holding [ov] (getMethod ov m pl)
      callWith pos f first (backTo pos (starEach (e :: es) X.env)) (backToKw pos (keywordEach [] X.env)))) :
    PE X (.Call (.Attribute o m apos) (e :: es) [] pos) (tMethW C m sp dvs W ta t) := by
  refine ⟨fun pins s σ H Q I h => ?_⟩
  refine PySem.W.methodCall_KW (pl := pl) (thn (he.run pins s σ H _ I h) fun u s1 ⟨x, H1, I1, rx, a, dx, fs, ex, ea, l, q⟩ => ?_) ht
  subst ex
  obtain rfl : u = Value.ref a := rx
  refine getmeth_ok I1 ea c hm l ?_
  refine PySem.W.callWith_K (first := [.ref a]) (h₀ := X.base) I.ok.mod.kin hm.kp (thn (ha.run pos pins s1 σ H1 _ I1 q) fun us s2 ⟨vs, H2, I2, r, q2⟩ => ⟨I2.kIn, ?_⟩) hst hpl
  exact run_fnW (us := .ref a :: us) (vs := .ref a :: vs) F hr hb hd tk I2 (.cons rfl r) q2
theorem pe_methW0 {pl : Sem Bool} (he : PE X o ta) (c : Cls X.K C) (hm : Meth X.K C m f) (F : FnOk X.prog X.w X.K X.mg X.base (L2.CX X.prog X.w) k f fd ps sp) (hr : Room k X.A) (hb : Binds X.K fd ps ds) (hd : Vals dvs ds) (tk : Takes X W)
    (ht : eval (.Call (.Attribute o m apos) [] [] pos) X.env = (do
      let ov ← eval o X.env
      standAt apos.atName
      let (f, first) ← holding [ov] (getMethod ov m pl)
      callWith pos f first (backTo pos (starEach [] X.env)) (backToKw pos (keywordEach [] X.env)))) :
    PE X (.Call (.Attribute o m apos) [] [] pos) (tMethW C m sp dvs W ta tNil) := by
  refine ⟨fun pins s σ H Q I h => ?_⟩
  refine PySem.W.methodCall_KW (pl := pl) (thn (he.run pins s σ H _ I h) fun u s1 ⟨x, H1, I1, rx, a, dx, fs, ex, ea, l, q⟩ => ?_) ht
  subst ex
  obtain rfl : u = Value.ref a := rx
  refine getmeth_ok I1 ea c hm l ?_
  exact PySem.W.callWith_K0 (first := [.ref a]) I1.kIn hm.kp (run_fnW (us := [.ref a]) (vs := [.ref a]) F hr hb hd tk I1 (.cons rfl .nil) q)
def tMakeW (C : Addr) (sp : Sp) (dvs : List V) (W : WX) (t : TA) : TE := fun σ H Q => t σ H fun vs H1 => ∀ x dx, H1 x = none → H1 dx = none → dx ≠ x →
  sp (.ref x :: (vs ++ dvs)) (upd (upd H1 dx (.own x)) x (.ins C dx [])) (fun v H2 => v = .non ∧ Q (.ref x) H2) (WE W σ)
theorem run_makeW {pins : List (Addr × Obj)} {σ : St} {H : Hp} {s : Shared} {Q : VK} {us : List Value} {vs : List V} (mk : Mk X.K C f) (F : FnOk X.prog X.w X.K X.mg X.base (L2.CX X.prog X.w) k f fd ps sp) (hr : Room (k + 1) X.A) (hb : Binds X.K fd ps ds) (hd : Vals dvs ds)
    (tk : Takes X W) (I : Inv X pins σ H s) (r : Vals vs us)
    (h : ∀ x dx, H x = none → H dx = none → dx ≠ x → sp (.ref x :: (vs ++ dvs)) (upd (upd H dx (.own x)) x (.ins C dx [])) (fun v H2 => v = .non ∧ Q (.ref x) H2) (WE W σ)) :
    wpAny (model X.prog X.w) X.A (call (.ref C) us) (EP X pins σ Q) X.xe s := by
  have hq := h (s.heap.objs.size + 1) s.heap.objs.size (I.hok.fresh (Nat.le_succ _)) (I.hok.fresh (Nat.le_refl _)) (Nat.ne_of_lt (Nat.lt_succ_self _))
  have I2 := Inv.made (C := C) I
  have r2 : Vals (V.ref (s.heap.objs.size + 1) :: (vs ++ dvs)) (Value.ref (s.heap.objs.size + 1) :: (us ++ ds)) := .cons rfl (r.append hd)
  have hl : (Value.ref (s.heap.objs.size + 1) :: us ++ ds).length = ps.length := by
    have e := r2.length
    rw [F.len _ _ _ _ hq] at e
    exact e.symm
  refine wpAny_call (make_map (f := f) I.kIn mk.makes mk.init (beq_iff_eq.mp mk.fn) (codeAny_mono (F.run _ X.stack _ _ ⟨Value.ref (s.heap.objs.size + 1) :: us, []⟩ (Value.ref (s.heap.objs.size + 1) :: (us ++ ds)) _ _ (WE W σ) (hr.make C us [])
    (I2.env0.make C us []) (hb _ (Value.ref (s.heap.objs.size + 1) :: us) I2.kIn hl) r2 hq) fun r s' hq' => ?_))
  cases r with
  | error e => exact passAt tk σ pins _ _ e s' I2 hq'
  | ok fl =>
    cases fl with
    | ret u =>
      obtain ⟨v, H', I3, rv, ev, q3⟩ := I2.after hq'
      subst ev
      exact ⟨rv, ⟨V.ref (s.heap.objs.size + 1), H', I3, rfl, q3⟩⟩
    | next => exact False.elim hq'
    | brk => exact False.elim hq'
    | cont => exact False.elim hq'
theorem pe_makeW (mk : Mk X.K C f) (F : FnOk X.prog X.w X.K X.mg X.base (L2.CX X.prog X.w) k f fd ps sp) (hr : Room (k + 1) X.A) (hg : Gl X x) (hm : X.mg x = some (.ref C)) (hb : Binds X.K fd ps ds) (hd : Vals dvs ds) (tk : Takes X W)
    (ha : PA X (e :: es) t) (hdb : (x == ("__debug__" : Str)) = false := by decide) (he : starEach (e :: es) X.env = (false, eval e X.env) :: starEach es X.env := by rfl) (hpl : (backTo pos (starEach es X.env)).any (·.1) = false := by rfl) :
    PE X (.Call (.Name x p) (e :: es) [] pos) (tMakeW C sp dvs W t) := by
  refine ⟨fun pins s σ H Q I h => ?_⟩
  refine wpAny_Call_Name_kw (ld_glob I hg hm ?_ hdb)
  refine PySem.W.callWith_K (h₀ := X.base) I.ok.mod.kin mk.kp (thn (ha.run pos pins s σ H _ I h) fun us s1 ⟨vs, H1, I1, r, q⟩ => ⟨I1.kIn, ?_⟩) he hpl
  exact run_makeW mk F hr hb hd tk I1 r q
theorem pe_makeW0 (mk : Mk X.K C f) (F : FnOk X.prog X.w X.K X.mg X.base (L2.CX X.prog X.w) k f fd ps sp) (hr : Room (k + 1) X.A) (hg : Gl X x) (hm : X.mg x = some (.ref C)) (hb : Binds X.K fd ps ds) (hd : Vals dvs ds) (tk : Takes X W)
    (hdb : (x == ("__debug__" : Str)) = false := by decide) : PE X (.Call (.Name x p) [] [] pos) (tMakeW C sp dvs W tNil) := by
  refine ⟨fun pins s σ H Q I h => ?_⟩
  refine wpAny_Call_Name_kw (ld_glob I hg hm ?_ hdb)
  exact PySem.W.callWith_K0 I.kIn mk.kp (run_makeW (us := []) mk F hr hb hd tk I .nil h)
end
def mCallD (f : List D → Store → Out D) (dds : List D) (ms : List ME) : ME := fun e S => (mArgs ms e S).bind fun ds S1 => f (ds ++ dds) S1
abbrev MTab := List (Str × (List D → Store → Out D))
/-- o.m(..): by the class of o -/
def mMeth (tab : MTab) (m : Str) (dds : List D) (o : ME) (ms : List ME) : ME := fun e S => (o e S).bind fun x S1 => match x with
  | .ref n => match S1[n]? with
    | some (.obj c fs) => match tab.lookup c, fs.lookup m with
      | some f, none => (mArgs ms e S1).bind fun ds S2 => f (x :: (ds ++ dds)) S2
      | _, _ => .bad
    | _ => .bad
  | _ => .bad
def madeOf (n : Nat) (o : Out D) : Out D := match o with
  | .ok .non S => .ok (.ref n) S
  | .ok _ _ => .bad
  | .exc c d S => .exc c d S
  | .bad => .bad
def mMake (c : Str) (f : List D → Store → Out D) (dds : List D) (ms : List ME) : ME := fun e S => (mArgs ms e S).bind fun ds S1 => madeOf S1.length (f (.ref S1.length :: (ds ++ dds)) (S1 ++ [.obj c []]))
section
variable {X : Cx} {CA : Str → Addr} {W : WX} {e o : Expr} {pos p apos : Pos} {es : List Expr} {ms : List ME} {mo : ME} {k : Nat} {x m c : Str} {f : List D → Store → Out D} {dds : List D}
theorem ce_def (G : GDef X.prog X.w X.K X.mg X.base CA k x f dds) (hr : Room k X.A) (tk : Takes X W) (ha : PA X (e :: es) (tA X.K CA W (mArgs ms))) (hg : Gl X x := by rfl) (hdb : (x == ("__debug__" : Str)) = false := by decide)
    (he : starEach (e :: es) X.env = (false, eval e X.env) :: starEach es X.env := by rfl) (hpl : (backTo pos (starEach es X.env)).any (·.1) = false := by rfl) : PE X (.Call (.Name x p) (e :: es) [] pos) (tE X.K CA W (mCallD f dds ms)) := by
  obtain ⟨a, fd, ps, ds, dvs, F, hm, hk, hb, hd, hdd⟩ := G.ex
  exact (pe_callW F hr hg hm hk hb hd tk ha hdb he hpl).imp fun σ H Q ⟨α, S, en, R, Er, q⟩ => ⟨α, S, en, R, Er, (okO.bind (R := RDs X.K) q).imp fun vs H1 ⟨ds1, S1, α1, g1, R1, r1, q1⟩ => ⟨α1, S1, _, R1, RepAll.append r1 (hdd α1 H1), q1⟩⟩
theorem ce_def0 (G : GDef X.prog X.w X.K X.mg X.base CA k x f dds) (hr : Room k X.A) (tk : Takes X W) (hg : Gl X x := by rfl) (hdb : (x == ("__debug__" : Str)) = false := by decide) : PE X (.Call (.Name x p) [] [] pos) (tE X.K CA W (mCallD f dds [])) := by
  obtain ⟨a, fd, ps, ds, dvs, F, hm, hk, hb, hd, hdd⟩ := G.ex
  exact (pe_callW0 F hr hg hm hk hb hd tk hdb).imp fun σ H Q ⟨α, S, en, R, Er, q⟩ => ⟨α, S, _, R, hdd α H, q⟩
theorem meth_key {tab : MTab} (G : ∀ c f, tab.lookup c = some f → GMeth X.prog X.w X.K X.mg X.base CA k c m f dds) {σ : St} {H : Hp} {Q : VK} (h : tE X.K CA W (mMeth tab m dds mo ms) σ H Q) :
    (∃ c f, GMeth X.prog X.w X.K X.mg X.base CA k c m f dds ∧ ∀ sp dvs, sp = spM X.K CA f → (∀ α H, RepAll X.K α H dds dvs) → tMethW (CA c) m sp dvs W (tE X.K CA W mo) (tA X.K CA W (mArgs ms)) σ H Q) ∨ ∃ α S en c d S1, HRep X.K CA α H S ∧ ERep X.K α H en σ ∧ mo en S = .exc c d S1 ∧ okE X.K CA α H (mo en S) Q (WE W σ) := by
  obtain ⟨α, S, en, R, Er, q⟩ := h
  cases e1 : mo en S with
  | exc c d S1 =>
    refine .inr ⟨α, S, en, c, d, S1, R, Er, e1, ?_⟩
    unfold mMeth at q
    rw [e1] at q ⊢
    exact q
  | bad => unfold mMeth at q; rw [e1] at q; exact q.elim
  | ok d S1 =>
    have q0 := q
    unfold mMeth at q0
    rw [e1] at q0
    cases d with
    | ref n =>
      cases e2 : S1[n]? with
      | none => simp only [Out.bind, e2] at q0; exact q0.elim
      | some cl => cases cl with
        | obj c fs =>
          simp only [Out.bind, e2] at q0
          cases e3 : tab.lookup c with
          | none => simp only [e3] at q0; exact q0.elim
          | some f =>
            cases e4 : fs.lookup m with
            | some d => simp only [e3, e4] at q0; exact q0.elim
            | none =>
              simp only [e3, e4] at q0
              refine .inl ⟨c, f, G c f e3, fun sp dvs hsp hdd => ?_⟩
              subst hsp
              refine ⟨α, S, en, R, Er, ?_⟩
              rw [e1]
              intro α1 H1 v g1 R1 r1
              obtain ⟨a, rfl, ha⟩ := r1
              obtain ⟨dx, vs, h, rk⟩ := R1.ok n a _ ha e2
              refine ⟨a, dx, vs, rfl, h, lookup_kv_none rk e4, α1, S1, en, R1, ERep.mono g1 _ _ Er, ?_⟩
              have q1 : okE X.K CA α1 H1 ((mArgs ms en S1).bind fun ds S2 => f (.ref n :: (ds ++ dds)) S2) Q (WE W σ) := okO.mono g1 q0
              refine (okO.bind (R := RDs X.K) q1).imp fun vs2 H2 ⟨ds2, S2, α2, g2, R2, r2, q2⟩ => ?_
              exact ⟨α2, S2, .ref n :: (ds2 ++ dds), R2, ⟨_, _, rfl, ⟨a, rfl, g2.get ha⟩, r2.append (hdd α2 H2)⟩, q2⟩
        | lst f xs => simp only [Out.bind, e2] at q0; exact q0.elim
        | dk f kvs => simp only [Out.bind, e2] at q0; exact q0.elim
        | dt f kvs => simp only [Out.bind, e2] at q0; exact q0.elim
    | _ => exact q0.elim
theorem ce_meth {pl : Sem Bool} {tab : MTab} (ho : PE X o (tE X.K CA W mo)) (G : ∀ c f, tab.lookup c = some f → GMeth X.prog X.w X.K X.mg X.base CA k c m f dds) (c0 : Str) (f0 : List D → Store → Out D) (h0 : tab.lookup c0 = some f0) (hr : Room k X.A) (tk : Takes X W) (ha : PA X (e :: es) (tA X.K CA W (mArgs ms)))
    (hst : starEach (e :: es) X.env = (false, eval e X.env) :: starEach es X.env := by rfl) (hpl : (backTo pos (starEach es X.env)).any (·.1) = false := by rfl)
    (ht : eval (.Call (.Attribute o m apos) (e :: es) [] pos) X.env = (do
      let ov ← eval o X.env
      standAt apos.atName
      let (f, first) ← holding [ov] (getMethod ov m pl)
      callWith pos f first (backTo pos (starEach (e :: es) X.env)) (backToKw pos (keywordEach [] X.env))) := by rfl) : PE X (.Call (.Attribute o m apos) (e :: es) [] pos) (tE X.K CA W (mMeth tab m dds mo ms)) := by
  refine ⟨fun pins s σ H Q I h => ?_⟩
  rcases meth_key G h with ⟨c, f, g, q⟩ | ⟨α, S, en, c, d, S1, R, Er, e1, q⟩
  · obtain ⟨a, fd, ps, ds, dvs, F, hc, hm, hb, hd, hdd⟩ := g.ex
    exact (pe_methW (pl := pl) ho hc hm F hr hb hd tk ha hst hpl ht).run pins s σ H Q I (q _ dvs rfl hdd)
  · obtain ⟨a, fd, ps, ds, dvs, F, hc, hm, hb, hd, hdd⟩ := (G c0 f0 h0).ex
    refine (pe_methW (pl := pl) ho hc hm F hr hb hd tk ha hst hpl ht).run pins s σ H Q I ⟨α, S, en, R, Er, ?_⟩
    rw [e1] at q ⊢
    exact q
theorem ce_meth0 {pl : Sem Bool} {tab : MTab} (ho : PE X o (tE X.K CA W mo)) (G : ∀ c f, tab.lookup c = some f → GMeth X.prog X.w X.K X.mg X.base CA k c m f dds) (c0 : Str) (f0 : List D → Store → Out D) (h0 : tab.lookup c0 = some f0) (hr : Room k X.A) (tk : Takes X W)
    (ht : eval (.Call (.Attribute o m apos) [] [] pos) X.env = (do
      let ov ← eval o X.env
      standAt apos.atName
      let (f, first) ← holding [ov] (getMethod ov m pl)
      callWith pos f first (backTo pos (starEach [] X.env)) (backToKw pos (keywordEach [] X.env))) := by rfl) : PE X (.Call (.Attribute o m apos) [] [] pos) (tE X.K CA W (mMeth tab m dds mo [])) := by
  have nil : ∀ {σ H} {Q : List V → Hp → Prop}, tA X.K CA W (mArgs []) σ H Q → tNil σ H Q := fun ⟨α, S, en, R, Er, q⟩ => q _ _ [] (Grow.refl _ _) R rfl
  refine ⟨fun pins s σ H Q I h => ?_⟩
  rcases meth_key G h with ⟨c, f, g, q⟩ | ⟨α, S, en, c, d, S1, R, Er, e1, q⟩
  · obtain ⟨a, fd, ps, ds, dvs, F, hc, hm, hb, hd, hdd⟩ := g.ex
    refine (pe_methW0 (pl := pl) ho hc hm F hr hb hd tk ht).run pins s σ H Q I ?_
    obtain ⟨α, S, en, R, Er, q2⟩ := q _ dvs rfl hdd
    exact ⟨α, S, en, R, Er, q2.imp fun v H1 ⟨a, dx, fs, e1, e2, e3, e4⟩ => ⟨a, dx, fs, e1, e2, e3, nil e4⟩⟩
  · obtain ⟨a, fd, ps, ds, dvs, F, hc, hm, hb, hd, hdd⟩ := (G c0 f0 h0).ex
    refine (pe_methW0 (pl := pl) ho hc hm F hr hb hd tk ht).run pins s σ H Q I ⟨α, S, en, R, Er, ?_⟩
    rw [e1] at q ⊢
    exact q
/-- the new instance's cell -/
theorem HRep.newObj {K : PySem.W.Frag} {α : List Addr} {H : Hp} {S : Store} {y dx : Addr} (R : HRep K CA α H S) (hy : H y = none) (hd : H dx = none) (ne : dx ≠ y) : Grow α H (α ++ [y]) (upd (upd H dx (.own y)) y (.ins (CA c) dx [])) ∧ HRep K CA (α ++ [y]) (upd (upd H dx (.own y)) y (.ins (CA c) dx [])) (S ++ [.obj c []]) := by
  have g1 : Grow α H α (upd H dx (.own y)) := Grow.new hd
  have R1 : HRep K CA α (upd H dx (.own y)) S := R.side hd
  have hy1 : upd H dx (.own y) y = none := by rw [upd_ne (Ne.symm ne)]; exact hy
  exact ⟨g1.trans ((Grow.new hy1).more _), R1.new hy1 fun H2 e g => ⟨dx, [], by rw [e]; exact upd_same, rfl, rfl⟩⟩
theorem make_key {C : Addr} {dvs : List V} (hC : C = CA c) (hdd : ∀ α H, RepAll X.K α H dds dvs) {σ : St} {H : Hp} {Q : VK} (h : tE X.K CA W (mMake c f dds ms) σ H Q) : tMakeW C (spM X.K CA f) dvs W (tA X.K CA W (mArgs ms)) σ H Q := by
  subst hC
  obtain ⟨α, S, en, R, Er, q⟩ := h
  refine ⟨α, S, en, R, Er, (okO.bind (R := RDs X.K) q).imp fun vs H1 ⟨ds1, S1, α1, g1, R1, r1, q1⟩ y dx hy hd ne => ?_⟩
  obtain ⟨g2, R2⟩ := R1.newObj (c := c) hy hd ne
  have hat : (α1 ++ [y])[S1.length]? = some y := R1.newAt
  refine ⟨α1 ++ [y], _, .ref S1.length :: (ds1 ++ dds), R2, ⟨_, _, rfl, ⟨y, rfl, hat⟩, (RepAll.mono g2 _ _ r1).append (hdd _ _)⟩, ?_⟩
  have q2 := okO.mono g2 q1
  cases e1 : f (.ref S1.length :: (ds1 ++ dds)) (S1 ++ [.obj c []]) with
  | ok d S2 =>
    rw [e1] at q2
    cases d with
    | non => exact fun α3 H3 v g3 R3 r3 => ⟨r3, q2 α3 H3 (.ref y) g3 R3 ⟨y, rfl, g3.get hat⟩⟩
    | _ => exact q2.elim
  | exc c d S2 => rw [e1] at q2; exact q2
  | bad => rw [e1] at q2; exact q2.elim
theorem ce_make (G : GMake X.prog X.w X.K X.mg X.base CA k c f dds) (hr : Room (k + 1) X.A) (tk : Takes X W) (ha : PA X (e :: es) (tA X.K CA W (mArgs ms))) (hg : Gl X c := by rfl) (hdb : (c == ("__debug__" : Str)) = false := by decide)
    (he : starEach (e :: es) X.env = (false, eval e X.env) :: starEach es X.env := by rfl) (hpl : (backTo pos (starEach es X.env)).any (·.1) = false := by rfl) : PE X (.Call (.Name c p) (e :: es) [] pos) (tE X.K CA W (mMake c f dds ms)) := by
  obtain ⟨a, fd, ps, ds, dvs, F, hm, mk, hb, hd, hdd⟩ := G.ex
  exact (pe_makeW mk F hr hg hm hb hd tk ha hdb he hpl).imp fun σ H Q h => make_key rfl hdd h
theorem ce_make0 (G : GMake X.prog X.w X.K X.mg X.base CA k c f dds) (hr : Room (k + 1) X.A) (tk : Takes X W) (hg : Gl X c := by rfl) (hdb : (c == ("__debug__" : Str)) = false := by decide) : PE X (.Call (.Name c p) [] [] pos) (tE X.K CA W (mMake c f dds [])) := by
  obtain ⟨a, fd, ps, ds, dvs, F, hm, mk, hb, hd, hdd⟩ := G.ex
  refine (pe_makeW0 mk F hr hg hm hb hd tk hdb).imp fun σ H Q h => ?_
  obtain ⟨α, S, en, R, Er, q⟩ := make_key (W := W) rfl hdd h
  exact q α H [] (Grow.refl _ _) R rfl

/-! ### fields stored -/
def putKD (f : Str) (v : D) : List (Str × D) → List (Str × D)
  | [] => [(f, v)]
  | (g, x) :: r => if g = f then (g, v) :: r else (g, x) :: putKD f v r
theorem RepKV.putF {K : PySem.W.Frag} {α : List Addr} {H : Hp} {f : Str} {d : D} {v : V} (rv : Rep K α H d v) : ∀ {fs : List (Str × D)} {vs : List (Str × V)}, RepKV K α H fs vs → RepKV K α H (putKD f d fs) (putF f v vs)
  | [], vs, h => by
    cases vs with
    | nil => exact ⟨rfl, v, [], rfl, rv, rfl⟩
    | cons p vs => have := h.1; simp at this
  | (g, x) :: fs, vs, ⟨e, u, r, e2, a, b⟩ => by
    cases vs with
    | nil => simp at e2
    | cons p vs =>
      obtain ⟨g', y⟩ := p
      simp only [List.map_cons, List.cons.injEq] at e e2
      obtain ⟨rfl, e⟩ := e
      obtain ⟨rfl, e2⟩ := e2
      subst e2
      unfold putKD L2.putF
      by_cases q : g' = f
      · rw [if_pos q, if_pos q]
        exact ⟨by simp [e], v, _, rfl, rv, b⟩
      · rw [if_neg q, if_neg q]
        obtain ⟨h1, h2⟩ := RepKV.putF (f := f) rv (fs := fs) (vs := vs) ⟨e, b⟩
        exact ⟨by simp [h1], y, _, rfl, a, h2⟩
/-- o.f = v, o of one of these classes -/
def mSetF (names : List Str) (f : Str) (mo mv : ME) : MS := fun e S => (mv e S).fl e fun d S1 => (mo e S1).fl e fun x S2 => match x with
  | .ref n => match S2[n]? with
    | some (.obj c fs) => if c ∈ names ∧ fs.length < 1000 then .nx e (S2.set n (.obj c (putKD f d fs))) else .bad
    | _ => .bad
  | _ => .bad
theorem cs_fld {fl : Str} {names : List Str} {pos' : Pos} {value : Expr} {mv : ME} (ho : PE X o (tE X.K CA W mo)) (hv : PE X value (tE X.K CA W mv)) (hc : ∀ c ∈ names, Cls X.K (CA c) ∧ NoAttr X.K (CA c) fl) (hs : swapsWith value (some (.Attribute o fl pos')) pos.line X.env = pure false := by rfl) :
    PS X (.Assign [.Attribute o fl pos'] value pos) (tS X.K CA W (mSetF names fl mo mv)) := (ps_fld ho hv hs).imp fun De σ H ⟨α, S, en, R, Er, q⟩ =>
  ⟨α, S, en, R, Er, (okS.fl (R := RD X.K) Er q).imp fun y H1 ⟨d, S1, α1, g1, R1, r1, q1⟩ => ⟨α1, S1, en, R1, ERep.mono g1 _ _ Er, (okS.fl (R := RD X.K) (ERep.mono g1 _ _ Er) q1).imp fun x H2 ⟨d2, S2, α2, g2, R2, r2, q2⟩ => by
    cases d2 with
    | ref n =>
      obtain ⟨a, rfl, ha⟩ := r2
      cases e1 : S2[n]? with
      | none => simp only [e1] at q2; exact q2.elim
      | some cl => cases cl with
        | obj c fs =>
          simp only [e1] at q2
          by_cases hn : c ∈ names ∧ fs.length < 1000
          · rw [if_pos hn] at q2
            obtain ⟨dx, vs, h, rk⟩ := R2.ok n a _ ha e1
            have l : vs.length = fs.length := by
              have := congrArg List.length rk.1
              rwa [List.length_map, List.length_map] at this
            refine ⟨a, CA c, dx, vs, rfl, h, (hc c hn.1).1, (hc c hn.1).2, by rw [l]; exact hn.2, ?_⟩
            have g3 : Grow α2 H2 α2 (upd H2 a (.ins (CA c) dx (putF fl y vs))) := Grow.upd h trivial
            refine q2 α2 _ σ g3 (R2.write ha e1 rfl h trivial rfl fun H3 e g => ⟨dx, _, by rw [e]; exact upd_same, RepKV.putF (Rep.mono (g2.trans g) _ _ r1) (rk.mono g)⟩) (ERep.mono (g1.trans (g2.trans g3)) _ _ Er)
          · rw [if_neg hn] at q2; exact q2.elim
        | lst f xs => simp only [e1] at q2; exact q2.elim
        | dk f kvs => simp only [e1] at q2; exact q2.elim
        | dt f kvs => simp only [e1] at q2; exact q2.elim
    | _ => exact q2.elim⟩⟩
end

/-! ### comprehensions -/
def wipeD (e : DEnv) : List Nat → DEnv
  | [] => e
  | v :: vs => (wipeD e vs).set v none
def lcN (it : ItD) (t : Tg) (c : MT) (m : ME) (ew : DEnv) (dl : Nat) : Nat → Nat → Store → Out D
  | 0, _, _ => .bad
  | k + 1, i, S => match stepIt S it i with
    | none => .bad
    | some none => .ok (.ref dl) S
    | some (some d) => match tgSet t d ew with
      | none => .bad
      | some e2 => match c e2 S with
        | .ok false S1 => lcN it t c m ew dl k (i + 1) S1
        | .ok true S1 => match m e2 S1 with
          | .ok y S2 => match S2[dl]? with
            | some (.lst false acc) => if acc.length < LIM then lcN it t c m ew dl k (i + 1) (S2.set dl (.lst false (acc ++ [y]))) else .bad
            | _ => .bad
          | _ => .bad
        | _ => .bad
/-- the turns are never more than the items: a list that grows while it is walked is not looked at -/
def itLen (S : Store) : ItD → Nat
  | .lst n => match S[n]? with
    | some (.lst _ xs) => xs.length
    | _ => 0
  | .tup ds => ds.length
  | .rng _ n => n
def mLc (mi : MI) (t : Tg) (c : MT) (m : ME) (vs : List Nat) : ME := fun e S => (mi e S).bind fun it S1 => lcN it t c m (wipeD e vs) S1.length (itLen S1 it + 1) 0 (S1 ++ [.lst false []])
def mYes : MT := fun _ S => .ok true S
def tgIn (vs : List Nat) : Tg → Bool
  | .one i => vs.contains i
  | .many is => is.all vs.contains
section
variable {K : PySem.W.Frag} {CA : Str → Addr} {α α1 : List Addr} {H H1 : Hp} {S : Store}
abbrev W0 : WX := fun _ _ _ _ => False
theorem ERep.wipe {e : DEnv} {σ : St} (h : ERep K α H e σ) : ∀ vs : List Nat, ERep K α H (wipeD e vs) (wipe σ vs)
  | [] => h
  | v :: vs => ERep.set v (ERep.wipe h vs) (x := none) (y := none) trivial
theorem wipe_set {σ : St} {x : Option V} {i : Nat} : ∀ {vs : List Nat}, i ∈ vs → wipe (σ.set i x) vs = wipe σ vs
  | [], h => by simp at h
  | v :: vs, h => by
    unfold wipe
    by_cases hm : i ∈ vs
    · rw [wipe_set hm]
    · have e : i = v := by
        rcases List.mem_cons.mp h with e | e
        · exact e
        · exact absurd e hm
      subst e
      have key : ∀ (us : List Nat) (σ : St), i ∉ us → wipe (σ.set i x) us = (wipe σ us).set i x := by
        intro us
        induction us with
        | nil => intro σ _; rfl
        | cons u us ih =>
          intro σ hn
          unfold wipe
          rw [ih σ (fun z => hn (List.mem_cons_of_mem _ z)), List.set_comm]
          exact fun z => hn (by rw [z]; exact List.mem_cons_self)
      rw [key vs σ hm, List.set_set]
theorem names_wipe {vs : List Nat} {Q : St → Hp → Prop} : ∀ {is : List Nat} {us : List V} {σ σ0 : St}, (∀ i ∈ is, i ∈ vs) → wipe σ vs = wipe σ0 vs → gNames is us σ H Q → gNames is us σ H fun σ2 H2 => wipe σ2 vs = wipe σ0 vs ∧ Q σ2 H2
  | [], us, σ, σ0, _, e, h => ⟨h.1, e, h.2⟩
  | i :: is, us, σ, σ0, hi, e, ⟨v, r, h1, h2⟩ => ⟨v, r, h1, names_wipe (fun j hj => hi j (List.mem_cons_of_mem _ hj)) (by rw [wipe_set (hi i List.mem_cons_self)]; exact e) h2⟩
theorem tg_wipe {t : Tg} {vs : List Nat} {v : V} {σ σ0 : St} {Q : St → Hp → Prop} (ht : tgIn vs t = true) (e : wipe σ vs = wipe σ0 vs) (h : tgR K t v σ H Q) : tgR K t v σ H fun σ2 H2 => wipe σ2 vs = wipe σ0 vs ∧ Q σ2 H2 := by
  cases t with
  | one i => exact ⟨by rw [wipe_set (by simpa [tgIn] using ht)]; exact e, h⟩
  | many is =>
    obtain ⟨a, xs, h1, h2, h3, h4⟩ := h
    exact ⟨a, xs, h1, h2, h3, names_wipe (fun i hi => by have := List.all_eq_true.mp ht i hi; simpa using this) e h4⟩
theorem wipe_wipe (σ : St) : ∀ vs : List Nat, wipe (wipe σ vs) vs = wipe σ vs := by
  have key : ∀ (us ws : List Nat) (σ : St), (∀ i ∈ us, i ∈ ws) → wipe (wipe σ us) ws = wipe σ ws := by
    intro us
    induction us with
    | nil => intro ws σ _; rfl
    | cons u us ih =>
      intro ws σ h
      show wipe ((wipe σ us).set u none) ws = _
      rw [wipe_set (h u List.mem_cons_self)]
      exact ih ws σ fun i hi => h i (List.mem_cons_of_mem _ hi)
  exact fun vs => key vs vs σ fun _ h => h
theorem lc_ok {it : ItD} {J : It} {t : Tg} {c : MT} {m : ME} {vs : List Nat} {e : DEnv} {σ : St} {Q : VK} {E : XK} {n : Nat} (ht : tgIn vs t = true) (R : HRep K CA α H S) (Er : ERep K α H e σ) (h : RI K α H it J) (q : okE K CA α H (lcN it t c m (wipeD e vs) S.length n 0 (S ++ [.lst false []])) Q E) :
    ∀ dl, H dl = none → ∃ Wv : Nat → Nat → Hp → Prop, (∃ m, Wv 0 m (upd H dl (.lst []))) ∧ ∀ i m' H, Wv i m' H →
      (J.stop i H ∧ Q (.ref dl) H) ∨ (J.go i H ∧ ∃ Nx : Hp → Prop, (∀ H', Nx H' → ∃ m'', m'' < m' ∧ Wv (i + 1) m'' H') ∧ ∀ x H', J.yld i H x H' → tgR K t x (wipe σ vs) H' fun σ2 H2 => wipe σ2 vs = wipe σ vs ∧ tT K CA W0 c σ2 H2 fun b H3 =>
        if b = true then tE K CA W0 m σ2 H3 fun y H4 => ∃ acc, H4 dl = some (.lst acc) ∧ acc.length < sizeLine ∧ Nx (upd H4 dl (.lst (acc ++ [y]))) else Nx H3) := by
  intro dl hdl
  have g0 : Grow α H (α ++ [dl]) (upd H dl (.lst [])) := (Grow.new hdl).more _
  have R0 : HRep K CA (α ++ [dl]) (upd H dl (.lst [])) (S ++ [.lst false []]) := R.new hdl (lst_new rfl)
  have q0 := okO.mono g0 q
  have at0 : (α ++ [dl])[S.length]? = some dl := R.newAt
  refine ⟨fun i m' H' => ∃ α' S', HRep K CA α' H' S' ∧ ERep K α' H' (wipeD e vs) (wipe σ vs) ∧ RI K α' H' it J ∧ α'[S.length]? = some dl ∧ okE K CA α' H' (lcN it t c m (wipeD e vs) S.length m' i S') Q E, ⟨n, α ++ [dl], _, R0, ERep.mono g0 _ _ (Er.wipe vs), h.mono g0, at0, q0⟩, ?_⟩
  rintro i m' H ⟨α, S', R, Er, h, hat, q⟩
  obtain ⟨s1, s2⟩ := step_ok (i := i) R h
  cases m' with
  | zero => exact q.elim
  | succ k =>
    rw [lcN] at q
    cases e1 : stepIt S' it i with
    | none => rw [e1] at q; exact q.elim
    | some o => cases o with
      | none =>
        rw [e1] at q
        exact .inl ⟨s1 e1, q α H _ (Grow.refl _ _) R ⟨dl, rfl, hat⟩⟩
      | some d =>
        rw [e1] at q
        obtain ⟨g1, g2⟩ := s2 d e1
        refine .inr ⟨g1, fun H' => ∃ α' S', HRep K CA α' H' S' ∧ ERep K α' H' (wipeD e vs) (wipe σ vs) ∧ RI K α' H' it J ∧ α'[S.length]? = some dl ∧ okE K CA α' H' (lcN it t c m (wipeD e vs) S.length k (i + 1) S') Q E, fun H' z => ⟨k, Nat.lt_succ_self k, z⟩, fun x H' y => ?_⟩
        obtain ⟨rfl, rx⟩ := g2 x H' y
        cases e2 : tgSet t d (wipeD e vs) with
        | none => simp only [e2] at q; exact q.elim
        | some e1' =>
          simp only [e2] at q
          refine tg_wipe ht (wipe_wipe σ vs) (tg_ok Er rx e2 fun σ2 Er2 => ⟨α, S', e1', R, Er2, ?_⟩)
          cases e3 : c e1' S' with
          | bad => rw [e3] at q; exact q.elim
          | exc x d S1 => rw [e3] at q; exact q.elim
          | ok b S1 =>
            rw [e3] at q
            intro α3 H3 b' g3 R3 rb
            have eb : b = b' := rb
            subst eb
            have q3 := okO.mono g3 q
            cases b with
            | false =>
              rw [if_neg (by decide)]
              exact ⟨α3, S1, R3, ERep.mono g3 _ _ Er, h.mono g3, g3.get hat, q3⟩
            | true =>
              rw [if_pos rfl]
              refine ⟨α3, S1, e1', R3, ERep.mono g3 _ _ Er2, ?_⟩
              cases e4 : m e1' S1 with
              | bad => simp only [e4] at q3; exact q3.elim
              | exc x d S2 => simp only [e4] at q3; exact q3.elim
              | ok y S2 =>
                simp only [e4] at q3
                intro α4 H4 yv g4 R4 ry
                have q4 := okO.mono g4 q3
                have hat4 : α4[S.length]? = some dl := g4.get (g3.get hat)
                cases e5 : S2[S.length]? with
                | none => simp only [e5] at q4; exact q4.elim
                | some cl =>
                  simp only [e5] at q4
                  rcases cl with ⟨_ | _, acc⟩ | _ | _ | _
                  · by_cases l : acc.length < LIM
                    · simp only [if_pos l] at q4
                      obtain ⟨accv, h5, r5⟩ := cell_false R4 e5 hat4
                      refine ⟨accv, h5, by rw [r5.length]; exact lim_lt l, α4, _, R4.write (c' := .lst false (acc ++ [y])) hat4 e5 rfl h5 trivial rfl fun H5 e g => ⟨_, by rw [e]; exact upd_same, (RepAll.mono g _ _ r5).append (RepAll.mk1 (Rep.mono g _ _ ry))⟩, ?_⟩
                      have g5 : Grow α4 H4 α4 (upd H4 dl (.lst (accv ++ [yv]))) := Grow.upd h5 trivial
                      exact ⟨ERep.mono (g3.trans (g4.trans g5)) _ _ Er, h.mono (g3.trans (g4.trans g5)), g5.get hat4, okO.mono g5 q4⟩
                    · simp only [if_neg l] at q4; exact q4.elim
                  all_goals exact q4.elim
end
section
variable {X : Cx} {CA : Str → Addr} {W : WX} {pos : Pos} {elt tg iter : Expr} {ifs : List Expr} {scope : Scope} {own : List (Str × Nat)} {mi : MI} {t : Tg} {c : MT} {m : ME}
theorem ct_none : PTs X [] (tT X.K CA W0 mYes) := ⟨fun pins s σ H Q I ⟨α, S, en, R, Er, q⟩ => pts_nil.run pins s σ H Q I (q α H true (Grow.refl _ _) R rfl)⟩
theorem ct_one {a : Expr} (h : PT X a (tT X.K CA W0 c)) : PTs X [a] (tT X.K CA W0 c) := pts_one h
theorem lc_reading {σ : St} {H : Hp} {Q : VK} (ht : tgIn (own.map (·.2)) t = true) (h : tE X.K CA W (mLc mi t c m (own.map (·.2))) σ H Q) : tLc (tI X.K CA W mi) (tgR X.K t) (tT X.K CA W0 c) (tE X.K CA W0 m) (own.map (·.2)) σ H Q := by
  obtain ⟨α, S, en, R, Er, q⟩ := h
  exact ⟨α, S, en, R, Er, (okO.bind (R := RI X.K) q).imp fun J H1 ⟨it, S1, α1, g1, R1, r1, q1⟩ => lc_ok ht R1 (ERep.mono g1 _ _ Er) r1 q1⟩
theorem ce_lc {vs : List Nat} (hc : X.calm = true) (hN : X.N.Nodup) (hi : PI X tg iter (tI X.K CA W mi)) (ok : BlkOk X.N X.env.scope scope own)
    (hg : ∀ (s : Shared) (H : Hp) (C : Addr) (cl : List (Str × Addr)) (fp : List Addr), PG (X.blk s H scope (compEnvC scope cl C X.env) fp) tg (tgR X.K t)) (ht : ∀ (s : Shared) (H : Hp) (C : Addr) (cl : List (Str × Addr)) (fp : List Addr), PTs (X.blk s H scope (compEnvC scope cl C X.env) fp) ifs (tT X.K CA W0 c))
    (he : ∀ (s : Shared) (H : Hp) (C : Addr) (cl : List (Str × Addr)) (fp : List Addr), PE (X.blk s H scope (compEnvC scope cl C X.env) fp) elt (tE X.K CA W0 m)) (hvs : own.map (·.2) = vs := by rfl) (hin : tgIn vs t = true := by rfl) (hs : ∀ x, foldedSetIterable iter X.env x = pure x := by intro _; rfl) :
    PE X (.ListComp elt [⟨tg, iter, ifs, 0⟩] scope pos) (tE X.K CA W (mLc mi t c m vs)) := by
  subst hvs
  exact (pe_lc hc hN hi ok hg ht he hs).imp fun σ H Q h => lc_reading hin h
theorem cs_setLc {i : Nat} {vs : List Nat} {y : Str} {py spos : Pos} (hc : X.calm = true) (hN : X.N.Nodup) (hy : X.N[i]? = some y) (hyl : X.env.scope.names.lookup y = some .local)
    (hsw : swapsWith (.ListComp elt [⟨tg, iter, ifs, 0⟩] scope pos) (some (.Name y py)) spos.line X.env = pure true) (hi : PI X tg iter (tI X.K CA W mi)) (ok : BlkOk X.N X.env.scope scope own)
    (hg : ∀ (s : Shared) (H : Hp) (C : Addr) (cl : List (Str × Addr)) (fp : List Addr), PG (X.blk s H scope (compEnvC scope cl C X.env) fp) tg (tgR X.K t)) (ht : ∀ (s : Shared) (H : Hp) (C : Addr) (cl : List (Str × Addr)) (fp : List Addr), PTs (X.blk s H scope (compEnvC scope cl C X.env) fp) ifs (tT X.K CA W0 c))
    (he : ∀ (s : Shared) (H : Hp) (C : Addr) (cl : List (Str × Addr)) (fp : List Addr), PE (X.blk s H scope (compEnvC scope cl C X.env) fp) elt (tE X.K CA W0 m)) (hvs : own.map (·.2) = vs := by rfl) (hin : tgIn vs t = true := by rfl) (hs : ∀ x, foldedSetIterable iter X.env x = pure x := by intro _; rfl) :
    PS X (.Assign [.Name y py] (.ListComp elt [⟨tg, iter, ifs, 0⟩] scope pos) spos) (tS X.K CA W (mSet i (mLc mi t c m vs))) := by
  subst hvs
  exact (ps_setLc hc hN hy hyl hsw hi ok hg ht he hs).imp fun De σ H ⟨α, S, en, R, Er, q⟩ =>
   lc_reading hin ⟨α, S, en, R, Er, (okS.fl (R := RD X.K) Er q).imp fun x H1 ⟨d, S1, α1, g1, R1, r1, q1⟩ => q1 α1 H1 _ (Grow.refl _ _) R1 (ERep.set i (ERep.mono g1 _ _ Er) (x := some d) (y := some x) r1)⟩
end
end M

/-! MBuilt: built-in functions and methods by their plain meanings. -/
namespace M
open PySem L2

def dLen (ds : List D) (S : Store) : Out D := match ds with
  | [.str z] => iNeed (z.length ≤ LIM) (.int z.length) S
  | [.tup xs] => .ok (.int xs.length) S
  | [.kt xs] => .ok (.int xs.length) S
  | [.ref n] => match S[n]? with
    | some (.lst _ xs) => .ok (.int xs.length) S
    | some (.dk false kvs) => .ok (.int kvs.length) S
    | _ => .bad
  | _ => .bad
def dList (ds : List D) (S : Store) : Out D := match ds with
  | [.tup xs] => .ok (.ref S.length) (S ++ [.lst false xs])
  | [.kt xs] => .ok (.ref S.length) (S ++ [.lst false xs])
  | [.ref n] => match S[n]? with
    | some (.lst _ xs) => .ok (.ref S.length) (S ++ [.lst false xs])
    | _ => .bad
  | _ => .bad
def dTuple (ds : List D) (S : Store) : Out D := match ds with
  | [.tup xs] => .ok (.tup xs) S
  | [.ref n] => match S[n]? with
    | some (.lst _ xs) => .ok (.tup xs) S
    | _ => .bad
  | _ => .bad
def dMax2 (ds : List D) (S : Store) : Out D := match ds with
  | [.int i, .int j] => .ok (.int (if j > i then j else i)) S
  | _ => .bad
def dMin2 (ds : List D) (S : Store) : Out D := match ds with
  | [.int i, .int j] => .ok (.int (if j < i then j else i)) S
  | _ => .bad
section
variable {K : PySem.W.Frag} {CA : Str → Addr} {X : Cx}
theorem rc_len : RCall X.K CA (fun xs H Q => (∃ x n, xs = [x] ∧ LenV X.K x H n ∧ Q (.int n) H) ∨ ∃ a kvs, xs = [V.ref a] ∧ H a = some (.dK kvs) ∧ Q (.int kvs.length) H) dLen := by
  intro α H S ds vs Q E R r q
  unfold dLen at q
  split at q
  · rename_i z
    obtain ⟨v, rfl, rv⟩ := RepAll.one r
    obtain ⟨k, q⟩ := ok_iNeed q
    exact .inl ⟨v, z.length, rfl, by rw [show v = .str z from rv]; exact ⟨lim_line k, rfl⟩, okE.val q R rfl⟩
  · rename_i xs
    obtain ⟨v, rfl, a, vs, rfl, t, ra⟩ := RepAll.one r
    exact .inl ⟨_, vs.length, rfl, .inr ⟨vs, SqT.of t, rfl⟩, by rw [ra.length]; exact okE.val q R rfl⟩
  · rename_i xs
    obtain ⟨v, rfl, a, vs, rfl, t, ra⟩ := RepAll.one r
    exact .inl ⟨_, vs.length, rfl, .inr ⟨vs, .inr t, rfl⟩, by rw [ra.length]; exact okE.val q R rfl⟩
  · rename_i n
    obtain ⟨v, rfl, a, rfl, ha⟩ := RepAll.one r
    split at q
    · rename_i f xs e
      obtain ⟨vs, sq, ra⟩ := sq_cell (R.ok n a _ ha e)
      exact .inl ⟨_, vs.length, rfl, .inl ⟨vs, sq, rfl⟩, by rw [ra.length]; exact okE.val q R rfl⟩
    · rename_i kvs e
      obtain ⟨vs, h, rk⟩ := R.ok n a _ ha e
      have l := congrArg List.length rk.1
      rw [List.length_map, List.length_map] at l
      exact .inr ⟨a, vs, rfl, h, by rw [l]; exact okE.val q R rfl⟩
    · exact q.elim
  · exact q.elim
theorem rc_list : RCall X.K CA (fun xs H Q => ∃ p ys, xs = [.ref p] ∧ (SqL X.K H p ys ∨ SqT X.K H p ys) ∧ ∀ l, H l = none → Q (.ref l) (upd H l (.lst ys))) dList := by
  intro α H S ds vs Q E R r q
  unfold dList at q
  split at q
  · obtain ⟨v, rfl, a, vs, rfl, t, ra⟩ := RepAll.one r
    exact ⟨a, vs, rfl, .inr (SqT.of t), fun p hp => okE.cell q R hp (lst_new ra)⟩
  · obtain ⟨v, rfl, a, vs, rfl, t, ra⟩ := RepAll.one r
    exact ⟨a, vs, rfl, .inr (.inr t), fun p hp => okE.cell q R hp (lst_new ra)⟩
  · rename_i n
    obtain ⟨v, rfl, a, rfl, ha⟩ := RepAll.one r
    split at q
    · rename_i f xs e
      obtain ⟨vs, sq, ra⟩ := sq_cell (R.ok n a _ ha e)
      exact ⟨a, vs, rfl, .inl sq, fun p hp => okE.cell q R hp (lst_new ra)⟩
    · exact q.elim
  · exact q.elim
theorem rc_tuple : RCall X.K CA (fun xs H Q => ∃ p ys, xs = [.ref p] ∧ ((SqL X.K H p ys ∧ ∀ l, H l = none → Q (.ref l) (upd H l (.tup ys))) ∨ (SqT X.K H p ys ∧ Q (.ref p) H))) dTuple := by
  intro α H S ds vs Q E R r q
  unfold dTuple at q
  split at q
  · obtain ⟨v, rfl, a, vs, rfl, t, ra⟩ := RepAll.one r
    exact ⟨a, vs, rfl, .inr ⟨SqT.of t, okE.val q R ⟨a, vs, rfl, t, ra⟩⟩⟩
  · rename_i n
    obtain ⟨v, rfl, a, rfl, ha⟩ := RepAll.one r
    split at q
    · rename_i f xs e
      obtain ⟨vs, sq, ra⟩ := sq_cell (R.ok n a _ ha e)
      exact ⟨a, vs, rfl, .inl ⟨sq, fun p hp => okE.tup q R hp ra⟩⟩
    · exact q.elim
  · exact q.elim
theorem rc_max2 : RCall X.K CA (fun xs H Q => ∃ i j, xs = [.int i, .int j] ∧ Q (.int (if j > i then j else i)) H) dMax2 := by
  intro α H S ds vs Q E R r q
  unfold dMax2 at q
  split at q
  · rename_i i j
    obtain ⟨v, r', rfl, rv, rr⟩ := r
    obtain ⟨w, rfl, rw'⟩ := RepAll.one rr
    exact ⟨i, j, by rw [show v = .int i from rv, show w = .int j from rw'], okE.val q R rfl⟩
  · exact q.elim
theorem rc_min2 : RCall X.K CA (fun xs H Q => ∃ i j, xs = [.int i, .int j] ∧ Q (.int (if j < i then j else i)) H) dMin2 := by
  intro α H S ds vs Q E R r q
  unfold dMin2 at q
  split at q
  · rename_i i j
    obtain ⟨v, r', rfl, rv, rr⟩ := r
    obtain ⟨w, rfl, rw'⟩ := RepAll.one rr
    exact ⟨i, j, by rw [show v = .int i from rv, show w = .int j from rw'], okE.val q R rfl⟩
  · exact q.elim
end
/-- isinstance of a built-in type -/
def kindOf (d : D) (S : Store) : Option String := match d with
  | .non => some "NoneType"
  | .bl _ => some "bool"
  | .int _ => some "int"
  | .str _ => some "str"
  | .tup _ => some "tuple"
  | .kt _ => some "tuple"
  | .ref n => match S[n]? with
    | some (.lst false _) => some "list"
    | some (.dk false _) => some "dict"
    | some (.dt false _) => some "dict"
    | _ => none
def isK (T : String) (t : String) : Option Bool := if t = T then some true else if t = "bool" ∧ T = "int" then some true else if T = "int" ∨ T = "bool" ∨ T = "str" ∨ T = "list" ∨ T = "tuple" ∨ T = "dict" then some false else none
def dIsInst (T : String) (d : D) (S : Store) : Out D := match kindOf d S with
  | some t => match isK T t with
    | some b => .ok (.bl b) S
    | none => .bad
  | none => .bad
theorem kit_isK {K : PySem.W.Frag} : ∀ t ∈ (["NoneType", "bool", "int", "str", "tuple", "list", "dict"] : List String), ∀ T ∈ (["int", "bool", "str", "list", "tuple", "dict"] : List String), ∀ b, isK T t = some b → PySem.W.kitOne K (.type t) (.type T) = some b := by
  have key : ∀ t ∈ (["NoneType", "bool", "int", "str", "tuple", "list", "dict"] : List String), ∀ T ∈ (["int", "bool", "str", "list", "tuple", "dict"] : List String), kitB t T = isK T t := by decide +kernel
  exact fun t ht T hT b h => kit_ty ((key t ht T hT).trans h)
theorem isK_T {T t : String} {b : Bool} (hT : T ∈ (["int", "bool", "str", "list", "tuple", "dict"] : List String)) (h : isK T t = some b) : True := trivial
section
variable {X : Cx} {CA : Str → Addr} {W : WX} {e o : Expr} {pos p apos cpos : Pos} {es : List Expr} {ms : List ME} {mo m : ME}
theorem kind_ok {α : List Addr} {H : Hp} {S : Store} {d : D} {v : V} {t : String} (R : HRep X.K CA α H S) (r : Rep X.K α H d v) (h : kindOf d S = some t) : TyX X.K H v (.type t) ∧ t ∈ (["NoneType", "bool", "int", "str", "tuple", "list", "dict"] : List String) := by
  cases d with
  | non => cases h; rw [show v = .non from r]; exact ⟨.base .non, by decide⟩
  | bl b => cases h; rw [show v = .bl b from r]; exact ⟨.base (.bl b), by decide⟩
  | int b => cases h; rw [show v = .int b from r]; exact ⟨.base (.int b), by decide⟩
  | str b => cases h; rw [show v = .str b from r]; exact ⟨.base (.str b), by decide⟩
  | tup ds => cases h; obtain ⟨a, vs, rfl, t, _⟩ := r; exact ⟨.base (.tup t), by decide⟩
  | kt ds => cases h; obtain ⟨a, vs, rfl, ⟨o, its, n, h1, h2, _⟩, _⟩ := r; exact ⟨.kTuple h1 h2, by decide⟩
  | ref n =>
    obtain ⟨a, rfl, ha⟩ := r
    unfold kindOf at h
    simp only at h
    split at h
    · rename_i xs e
      cases h
      obtain ⟨vs, h1, _⟩ := cell_false R e ha
      exact ⟨.base (.lst h1), by decide⟩
    · rename_i xs e
      cases h
      obtain ⟨vs, h1, _⟩ := R.ok n a _ ha e
      exact ⟨.base (.dK h1), by decide⟩
    · rename_i xs e
      cases h
      obtain ⟨vs, h1, _⟩ := R.ok n a _ ha e
      exact ⟨.base (.dT h1), by decide⟩
    · cases h
theorem ce_isinst {T : String} {pT : Pos} (hm : X.mg "isinstance" = none) (he : PE X e (tE X.K CA W m)) (hT : PE X (.Name (Str.ofString T) pT) (tC (.ty T))) (hin : T ∈ (["int", "bool", "str", "list", "tuple", "dict"] : List String) := by decide) (hg : Gl X "isinstance" := by rfl)
    (hs1 : starEach [e, .Name (Str.ofString T) pT] X.env = (false, eval e X.env) :: starEach [.Name (Str.ofString T) pT] X.env := by rfl) (hs2 : starEach [.Name (Str.ofString T) pT] X.env = (false, eval (.Name (Str.ofString T) pT) X.env) :: starEach [] X.env := by rfl)
    (hpl : (backTo pos (starEach [.Name (Str.ofString T) pT] X.env)).any (·.1) = false := by rfl) :
    PE X (.Call (.Name "isinstance" p) [e, .Name (Str.ofString T) pT] [] pos) (tE X.K CA W (mUn (dIsInst T) m)) :=
  (pe_callB call_isi hg hm (by decide +kernel) (pa_cons he (pa_cons hT pa_nil hs2) hs1) (by decide) (by decide) hs1 hpl).imp fun σ H Q ⟨α, S, en, R, Er, q⟩ => ⟨α, S, en, R, Er, (okO.bind (R := RD X.K) q).imp fun x H1 ⟨d, S1, α1, g1, R1, r1, q1⟩ => by
    unfold dIsInst at q1
    cases e1 : kindOf d S1 with
    | none => simp only [e1] at q1; exact q1.elim
    | some t =>
      simp only [e1] at q1
      cases e2 : isK T t with
      | none => simp only [e2] at q1; exact q1.elim
      | some b =>
        simp only [e2] at q1
        obtain ⟨h1, h2⟩ := kind_ok R1 r1 e1
        exact ⟨x, .ty T, .type t, .type T, b, rfl, .ty T, h1, kit_isK t h2 T hin b e2, okE.val q1 R1 rfl⟩⟩
/-- a built-in type's name as a value -/
theorem ce_ty {T : String} {pT : Pos} (hg : Gl X (Str.ofString T)) (hm : X.mg (Str.ofString T) = none) (hv : bootBuiltins (Str.ofString T) = some (.type T)) (hn : (Str.ofString T) ≠ "__name__" := by decide) (hd : (Str.ofString T == ("__debug__" : Str)) = false := by decide) : PE X (.Name (Str.ofString T) pT) (tC (.ty T)) := pe_bltn hg hm hv rfl hn hd

/-! ### methods of lists -/
def isLst (d : D) (S : Store) : Bool := match d with
  | .ref n => match S[n]? with
    | some (.lst _ _) => true
    | _ => false
  | _ => false
def mBM (isT : D → Store → Bool) (f : D → List D → Store → Out D) (mo : ME) (ms : List ME) : ME := fun e S => (mo e S).bind fun x S1 => if isT x S1 = true then (mArgs ms e S1).bind fun ds S2 => f x ds S2 else .bad
def RMt (K : PySem.W.Frag) (CA : Str → Addr) (r : V → List V → Hp → VK → Prop) (f : D → List D → Store → Out D) : Prop := ∀ α H S dx ds x vs Q E, HRep K CA α H S → Rep K α H dx x → RepAll K α H ds vs → okE K CA α H (f dx ds S) Q E → r x vs H Q
theorem isLst_ok {α : List Addr} {H : Hp} {S : Store} {d : D} {v : V} (R : HRep X.K CA α H S) (r : Rep X.K α H d v) (h : isLst d S = true) : tyV X.K "list" v H := by
  cases d with
  | ref n =>
    obtain ⟨a, rfl, ha⟩ := r
    unfold isLst at h
    simp only at h
    split at h
    · rename_i f xs e
      obtain ⟨vs, sq, _⟩ := sq_cell (R.ok n a _ ha e)
      exact .inl ⟨rfl, vs, sq⟩
    · cases h
  | _ => cases h
theorem ce_bmL {name : Str} {id : String} {r : V → List V → Hp → VK → Prop} {f : D → List D → Store → Out D} (slot : Slot "list" name id) (hty : typeOf (.builtin id) = pure (.type "method_descriptor")) (hm : MtR X id r) (hr : RMt X.K CA r f) (ho : PE X o (tE X.K CA W mo)) (ha : PA X (e :: es) (tA X.K CA W (mArgs ms)))
    (hbase : attributeBase o name X.env (eval o X.env) = eval o X.env := by rfl)
    (hfew : ((backTo cpos (starEach (e :: es) X.env)).all (fun x => !x.1) && (backToKw cpos (keywordEach [] X.env)).all (fun x => x.1.isSome)
      && decide ((e :: es).length + ([] : List Keyword).length + (if ([] : List Keyword).isEmpty then 0 else 1) < 30)) = true := by rfl)
    (hline : (apos.endLine == cpos.line) = true := by rfl) (hs : starEach (e :: es) X.env = (false, eval e X.env) :: starEach es X.env := by rfl) (hplain : (backTo cpos (starEach es X.env)).any (·.1) = false := by rfl) :
    PE X (.Call (.Attribute o name apos) (e :: es) [] cpos) (tE X.K CA W (mBM isLst f mo ms)) := (pe_bm PySem.F.plainAttrs_list slot hty hm ho ha hbase hfew hline hs hplain).imp fun σ H Q ⟨α, S, en, R, Er, q⟩ =>
  ⟨α, S, en, R, Er, (okO.bind (R := RD X.K) q).imp fun x H1 ⟨d, S1, α1, g1, R1, r1, q1⟩ => by
    by_cases h : isLst d S1 = true
    · rw [if_pos h] at q1
      exact ⟨isLst_ok R1 r1 h, α1, S1, en, R1, ERep.mono g1 _ _ Er, (okO.bind (R := RDs X.K) q1).imp fun vs H2 ⟨ds, S2, α2, g2, R2, r2, q2⟩ => hr α2 H2 S2 d ds x vs Q _ R2 (Rep.mono g2 _ _ r1) r2 q2⟩
    · rw [if_neg h] at q1; exact q1.elim⟩
def dAppend (x : D) (ds : List D) (S : Store) : Out D := match x, ds with
  | .ref n, [y] => match S[n]? with
    | some (.lst false xs) => if xs.length < LIM then .ok .non (S.set n (.lst false (xs ++ [y]))) else .bad
    | _ => .bad
  | _, _ => .bad
theorem rm_append : RMt X.K CA rAppend dAppend := by
  intro α H S dx ds x vs Q E R rx r q
  unfold dAppend at q
  split at q
  · rename_i n y
    obtain ⟨a, rfl, ha⟩ := rx
    obtain ⟨v, rfl, rv⟩ := RepAll.one r
    split at q
    · rename_i xs e
      obtain ⟨us, h, ru⟩ := cell_false R e ha
      by_cases l : xs.length < LIM
      · rw [if_pos l] at q
        refine ⟨a, us, v, rfl, rfl, h, by rw [ru.length]; exact lim_lt l, ?_⟩
        exact q α _ .non (Grow.upd h trivial) (R.write (c' := .lst false (xs ++ [y])) ha e rfl h trivial rfl fun H3 e g => ⟨_, by rw [e]; exact upd_same, (RepAll.mono g _ _ ru).append (RepAll.mk1 (Rep.mono g _ _ rv))⟩) rfl
      · rw [if_neg l] at q; exact q.elim
    · exact q.elim
  · exact q.elim
theorem ce_append (ho : PE X o (tE X.K CA W mo)) (ha : PA X [e] (tA X.K CA W (mArgs ms)))
    (hbase : attributeBase o "append" X.env (eval o X.env) = eval o X.env := by rfl)
    (hfew : ((backTo cpos (starEach [e] X.env)).all (fun x => !x.1) && (backToKw cpos (keywordEach [] X.env)).all (fun x => x.1.isSome)
      && decide ([e].length + ([] : List Keyword).length + (if ([] : List Keyword).isEmpty then 0 else 1) < 30)) = true := by rfl)
    (hline : (apos.endLine == cpos.line) = true := by rfl) (hs : starEach [e] X.env = (false, eval e X.env) :: starEach [] X.env := by rfl) (hplain : (backTo cpos (starEach [] X.env)).any (·.1) = false := by rfl) :
    PE X (.Call (.Attribute o "append" apos) [e] [] cpos) (tE X.K CA W (mBM isLst dAppend mo ms)) := ce_bmL PySem.F.slot_list_append PySem.F.type_list_append mt_append rm_append ho ha hbase hfew hline hs hplain
theorem ce_len (hm : X.mg "len" = none) (ha : PA X [e] (tA X.K CA W (mArgs ms))) (hg : Gl X "len" := by rfl) (he : starEach [e] X.env = (false, eval e X.env) :: starEach [] X.env := by rfl) (hpl : (backTo pos (starEach [] X.env)).any (·.1) = false := by rfl) : PE X (.Call (.Name "len" p) [e] [] pos) (tE X.K CA W (mCall dLen ms)) :=
  ce_callB (call_len.or call_lenD) rc_len hm PySem.boot_len ha hg (by decide) (by decide) he hpl
theorem ce_list (hm : X.mg "list" = none) (ha : PA X [e] (tA X.K CA W (mArgs ms))) (hg : Gl X "list" := by rfl) (he : starEach [e] X.env = (false, eval e X.env) :: starEach [] X.env := by rfl) (hpl : (backTo pos (starEach [] X.env)).any (·.1) = false := by rfl) : PE X (.Call (.Name "list" p) [e] [] pos) (tE X.K CA W (mCall dList ms)) :=
  ce_callTy call_list_of rc_list hm (by decide +kernel) ha hg (by decide) (by decide) he hpl
theorem ce_tuple (hm : X.mg "tuple" = none) (ha : PA X [e] (tA X.K CA W (mArgs ms))) (hg : Gl X "tuple" := by rfl) (he : starEach [e] X.env = (false, eval e X.env) :: starEach [] X.env := by rfl) (hpl : (backTo pos (starEach [] X.env)).any (·.1) = false := by rfl) : PE X (.Call (.Name "tuple" p) [e] [] pos) (tE X.K CA W (mCall dTuple ms)) :=
  ce_callTy call_tuple_of rc_tuple hm (by decide +kernel) ha hg (by decide) (by decide) he hpl
theorem ce_max2 {b : Expr} (hc : X.calm = true) (hm : X.mg "max" = none) (ha : PA X [e, b] (tA X.K CA W (mArgs ms))) (hg : Gl X "max" := by rfl) (he : starEach [e, b] X.env = (false, eval e X.env) :: starEach [b] X.env := by rfl) (hpl : (backTo pos (starEach [b] X.env)).any (·.1) = false := by rfl) : PE X (.Call (.Name "max" p) [e, b] [] pos) (tE X.K CA W (mCall dMax2 ms)) :=
  ce_callB (call_max2 hc) rc_max2 hm (by decide +kernel) ha hg (by decide) (by decide) he hpl
theorem ce_min2 {b : Expr} (hc : X.calm = true) (hm : X.mg "min" = none) (ha : PA X [e, b] (tA X.K CA W (mArgs ms))) (hg : Gl X "min" := by rfl) (he : starEach [e, b] X.env = (false, eval e X.env) :: starEach [b] X.env := by rfl) (hpl : (backTo pos (starEach [b] X.env)).any (·.1) = false := by rfl) : PE X (.Call (.Name "min" p) [e, b] [] pos) (tE X.K CA W (mCall dMin2 ms)) :=
  ce_callB (call_min2 hc) rc_min2 hm (by decide +kernel) ha hg (by decide) (by decide) he hpl
end
end M

/-! MDict: dicts; items, in, chains of any kind by their plain meanings. -/
namespace M
open PySem L2

/-! ### keys and pairs -/
def keyK : D → Option Key
  | .int i => some (.inl i)
  | .str x => some (.inr x)
  | _ => none
def keyT : D → Option (List Key)
  | .tup ds => allO keyK ds
  | _ => none
section
variable {κ : Type} [DecidableEq κ]
def lookD (kvs : List (κ × D)) (k : κ) : Option D := (kvs.find? fun kv => decide (kv.1 = k)).map (·.2)
def putD (kvs : List (κ × D)) (k : κ) (v : D) : List (κ × D) :=
  if (kvs.any fun kv => decide (kv.1 = k)) = true then kvs.map (fun kv => if kv.1 = k then (kv.1, v) else kv) else kvs ++ [(k, v)]
def dropD (kvs : List (κ × D)) (k : κ) : List (κ × D) := kvs.filter fun kv => decide (kv.1 ≠ k)
end
section
variable {K : PySem.W.Frag} {CA : Str → Addr} {α : List Addr} {H : Hp} {S : Store} {κ : Type} [DecidableEq κ]
theorem RepKV.nil : RepKV K α H ([] : List (κ × D)) [] := ⟨rfl, rfl⟩
theorem RepKV.cons {k : κ} {d : D} {v : V} {ds : List (κ × D)} {vs : List (κ × V)} (r : Rep K α H d v) (h : RepKV K α H ds vs) : RepKV K α H ((k, d) :: ds) ((k, v) :: vs) := ⟨by simp [h.1], v, _, rfl, r, h.2⟩
theorem RepKV.cases {κ : Type} {P : List (κ × D) → List (κ × V) → Prop} (nil : P [] []) (cons : ∀ k d v ds vs, Rep K α H d v → RepKV K α H ds vs → P ds vs → P ((k, d) :: ds) ((k, v) :: vs)) : ∀ {ds : List (κ × D)} {vs : List (κ × V)}, RepKV K α H ds vs → P ds vs
  | [], vs, h => by
    cases vs with
    | nil => exact nil
    | cons p vs => have := h.1; simp at this
  | (k, x) :: ds, vs, ⟨e, u, r, e2, a, b⟩ => by
    cases vs with
    | nil => simp at e
    | cons p vs =>
      obtain ⟨k', y⟩ := p
      simp only [List.map_cons, List.cons.injEq] at e e2
      obtain ⟨rfl, e⟩ := e
      obtain ⟨rfl, e2⟩ := e2
      subst e2
      exact cons _ _ _ _ _ a ⟨e, b⟩ (RepKV.cases nil cons ⟨e, b⟩)
theorem RepKV.len {ds : List (κ × D)} {vs : List (κ × V)} (h : RepKV K α H ds vs) : vs.length = ds.length := by
  have := congrArg List.length h.1
  rwa [List.length_map, List.length_map] at this
theorem RepKV.look {ds : List (κ × D)} {vs : List (κ × V)} (h : RepKV K α H ds vs) (k : κ) : (lookD ds k = none → valV vs k = none) ∧ ∀ d, lookD ds k = some d → ∃ v, valV vs k = some v ∧ Rep K α H d v := by
  refine RepKV.cases (P := fun ds vs => (lookD ds k = none → valV vs k = none) ∧ ∀ d, lookD ds k = some d → ∃ v, valV vs k = some v ∧ Rep K α H d v) ⟨fun _ => rfl, fun d z => by simp [lookD] at z⟩ (fun k' d' v' ds vs r _ ih => ?_) h
  by_cases e : k' = k
  · refine ⟨fun z => by simp [lookD, List.find?_cons, e] at z, fun d z => ⟨v', by simp [valV, List.find?_cons, e], ?_⟩⟩
    have : d' = d := by simpa [lookD, List.find?_cons, e] using z
    rw [← this]; exact r
  · have e1 : lookD ((k', d') :: ds) k = lookD ds k := by simp [lookD, List.find?_cons, e]
    have e2 : valV ((k', v') :: vs) k = valV vs k := by simp [valV, List.find?_cons, e]
    rw [e1, e2]
    exact ih
theorem RepKV.any {ds : List (κ × D)} {vs : List (κ × V)} (h : RepKV K α H ds vs) (k : κ) : (vs.any fun kv => decide (kv.1 = k)) = ds.any fun kv => decide (kv.1 = k) :=
  RepKV.cases (P := fun ds vs => (vs.any fun kv => decide (kv.1 = k)) = ds.any fun kv => decide (kv.1 = k)) rfl (fun _ _ _ _ _ _ _ ih => by rw [List.any_cons, List.any_cons, ih]) h
theorem RepKV.put {ds : List (κ × D)} {vs : List (κ × V)} (h : RepKV K α H ds vs) (k : κ) {d : D} {v : V} (r : Rep K α H d v) : RepKV K α H (putD ds k d) (putK vs k v) := by
  unfold putD L2.putK
  rw [h.any k]
  split
  · refine RepKV.cases (P := fun ds vs => RepKV K α H (ds.map fun kv => if kv.1 = k then (kv.1, d) else kv) (vs.map fun kv => if kv.1 = k then (kv.1, v) else kv)) RepKV.nil (fun k' d' v' ds vs r' _ ih => ?_) h
    rw [List.map_cons, List.map_cons]
    by_cases e : k' = k
    · simp only [if_pos e]; exact RepKV.cons r ih
    · simp only [if_neg e]; exact RepKV.cons r' ih
  · exact RepKV.cases (P := fun ds vs => RepKV K α H (ds ++ [(k, d)]) (vs ++ [(k, v)])) (RepKV.cons r RepKV.nil) (fun _ _ _ _ _ r' _ ih => RepKV.cons r' ih) h
theorem RepKV.drop {ds : List (κ × D)} {vs : List (κ × V)} (h : RepKV K α H ds vs) (k : κ) : RepKV K α H (dropD ds k) (dropK vs k) :=
  RepKV.cases (P := fun ds vs => RepKV K α H (dropD ds k) (dropK vs k)) RepKV.nil (fun k' d' v' ds vs r' _ ih => by
    unfold dropD L2.dropK at *
    rw [List.filter_cons, List.filter_cons]
    by_cases e : k' = k
    · simp [e]; simpa using ih
    · simp only [ne_eq, e, not_false_eq_true, decide_true, if_true]; exact RepKV.cons r' ih) h
theorem keyK_ok {d : D} {v : V} {k : Key} (r : Rep K α H d v) (h : keyK d = some k) : v = kV k := by
  cases d with
  | int i => cases h; exact r
  | str x => cases h; exact r
  | _ => cases h
theorem keyKs_ok : ∀ {ds : List D} {vs : List V} {ks : List Key}, RepAll K α H ds vs → allO keyK ds = some ks → vs = ks.map kV
  | [], vs, ks, r, h => by
    have : ks = [] := by simpa [allO] using h.symm
    rw [this]; exact r
  | d :: ds, _, ks, ⟨v, r, e, a, b⟩, h => by
    obtain ⟨y, ys, h1, h2, rfl⟩ := allO_cons h
    rw [e, keyK_ok a h1, keyKs_ok b h2] <;> rfl
theorem keyT_ok {d : D} {v : V} {k : List Key} (r : Rep K α H d v) (h : keyT d = some k) : ∃ b, v = .ref b ∧ H b = some (.tup (k.map kV)) := by
  cases d with
  | tup ds =>
    obtain ⟨a, vs, rfl, t, ra⟩ := r
    exact ⟨a, rfl, by rw [t, keyKs_ok ra h]⟩
  | _ => cases h
/-- what stands in the dict at the key -/
def dictGet (x y : D) (S : Store) : Option (Option D) := match x with
  | .ref n => match S[n]? with
    | some (.dk _ kvs) => (keyK y).map (lookD kvs)
    | some (.dt _ kvs) => (keyT y).map (lookD kvs)
    | _ => none
  | _ => none
def isDictD (x : D) (S : Store) : Bool := match x with
  | .ref n => match S[n]? with
    | some (.dk _ _) => true
    | some (.dt _ _) => true
    | _ => false
  | _ => false
theorem rd_dk {f : Bool} {kvs : List (Key × D)} {a : Addr} (h : CellOk K CA α H a (.dk f kvs)) : ∃ vs, Rd H a (.dK vs) ∧ RepKV K α H kvs vs := by
  cases f with
  | false => obtain ⟨vs, h, r⟩ := h; exact ⟨vs, .inl h, r⟩
  | true => obtain ⟨vs, o, h, r⟩ := h; exact ⟨vs, .inr ⟨o, h⟩, r⟩
theorem rd_dt {f : Bool} {kvs : List (List Key × D)} {a : Addr} (h : CellOk K CA α H a (.dt f kvs)) : ∃ vs, Rd H a (.dT vs) ∧ RepKV K α H kvs vs := by
  cases f with
  | false => obtain ⟨vs, h, r⟩ := h; exact ⟨vs, .inl h, r⟩
  | true => obtain ⟨vs, o, h, r⟩ := h; exact ⟨vs, .inr ⟨o, h⟩, r⟩
theorem dget_ok {dx dy : D} {x y : V} {r : Option D} (R : HRep K CA α H S) (rx : Rep K α H dx x) (ry : Rep K α H dy y) (h : dictGet dx dy S = some r) : ∃ a o, x = .ref a ∧ DGet H a y o ∧ (r = none → o = none) ∧ ∀ d, r = some d → ∃ v, o = some v ∧ Rep K α H d v := by
  cases dx with
  | ref n =>
    obtain ⟨a, rfl, ha⟩ := rx
    unfold dictGet at h
    simp only at h
    split at h
    · rename_i f kvs e
      obtain ⟨vs, h1, rk⟩ := rd_dk (R.ok n a _ ha e)
      rw [Option.map_eq_some_iff] at h
      obtain ⟨k, hk, rfl⟩ := h
      obtain ⟨l1, l2⟩ := rk.look k
      exact ⟨a, valV vs k, rfl, .inl ⟨vs, k, h1, keyK_ok ry hk, rfl⟩, l1, l2⟩
    · rename_i f kvs e
      obtain ⟨vs, h1, rk⟩ := rd_dt (R.ok n a _ ha e)
      rw [Option.map_eq_some_iff] at h
      obtain ⟨k, hk, rfl⟩ := h
      obtain ⟨l1, l2⟩ := rk.look k
      obtain ⟨b, hb1, hb2⟩ := keyT_ok ry hk
      exact ⟨a, valV vs k, rfl, .inr ⟨vs, k, b, h1, hb1, hb2, rfl⟩, l1, l2⟩
    · cases h
  | _ => cases h
theorem isD_ok {dx : D} {x : V} (R : HRep K CA α H S) (rx : Rep K α H dx x) (h : isDictD dx S = true) : ∃ a, x = .ref a ∧ IsD H a := by
  cases dx with
  | ref n =>
    obtain ⟨a, rfl, ha⟩ := rx
    unfold isDictD at h
    simp only at h
    split at h
    · rename_i f kvs e
      obtain ⟨vs, h1, rk⟩ := rd_dk (R.ok n a _ ha e)
      exact ⟨a, rfl, .inl ⟨vs, h1⟩⟩
    · rename_i f kvs e
      obtain ⟨vs, h1, rk⟩ := rd_dt (R.ok n a _ ha e)
      exact ⟨a, rfl, .inr ⟨vs, h1⟩⟩
    · cases h
  | _ => cases h
end
/-- the dict at x with y: v put -/
def dictPut (x y v : D) (S : Store) : Option Store := match x with
  | .ref n => match S[n]? with
    | some (.dk false kvs) => match keyK y with
      | some k => if kvs.length < LIM then some (S.set n (.dk false (putD kvs k v))) else none
      | none => none
    | some (.dt false kvs) => match keyT y with
      | some k => if kvs.length < LIM then some (S.set n (.dt false (putD kvs k v))) else none
      | none => none
    | _ => none
  | _ => none
section
variable {K : PySem.W.Frag} {CA : Str → Addr} {α : List Addr} {H : Hp} {S : Store}
theorem dput_ok {dx dy dv : D} {x y v : V} {S' : Store} (R : HRep K CA α H S) (rx : Rep K α H dx x) (ry : Rep K α H dy y) (rv : Rep K α H dv v) (h : dictPut dx dy dv S = some S') : ∃ a H', x = .ref a ∧ DPut H a y v H' ∧ Grow α H α H' ∧ HRep K CA α H' S' := by
  cases dx with
  | ref n =>
    obtain ⟨a, rfl, ha⟩ := rx
    unfold dictPut at h
    simp only at h
    split at h
    · rename_i kvs e
      split at h
      · rename_i k hk
        by_cases l : kvs.length < LIM
        · rw [if_pos l] at h
          cases h
          obtain ⟨vs, h1, rk⟩ := R.ok n a _ ha e
          exact ⟨a, _, rfl, .inl ⟨vs, k, h1, keyK_ok ry hk, by rw [rk.len]; exact lim_lt l, rfl⟩, Grow.upd h1 trivial,
            R.write (c' := .dk false (putD kvs k dv)) ha e rfl h1 trivial rfl fun H2 e2 g => ⟨_, by rw [e2]; exact upd_same, (rk.mono g).put k (Rep.mono g _ _ rv)⟩⟩
        · rw [if_neg l] at h; cases h
      · cases h
    · rename_i kvs e
      split at h
      · rename_i k hk
        by_cases l : kvs.length < LIM
        · rw [if_pos l] at h
          cases h
          obtain ⟨vs, h1, rk⟩ := R.ok n a _ ha e
          obtain ⟨b, hb1, hb2⟩ := keyT_ok ry hk
          exact ⟨a, _, rfl, .inr ⟨vs, k, b, h1, hb1, hb2, by rw [rk.len]; exact lim_lt l, rfl⟩, Grow.upd h1 trivial,
            R.write (c' := .dt false (putD kvs k dv)) ha e rfl h1 trivial rfl fun H2 e2 g => ⟨_, by rw [e2]; exact upd_same, (rk.mono g).put k (Rep.mono g _ _ rv)⟩⟩
        · rw [if_neg l] at h; cases h
      · cases h
    · cases h
  | _ => cases h
end

/-! ### items of any kind -/
def dIxD (x y : D) (S : Store) : Out D := match dictGet x y S with
  | some (some d) => .ok d S
  | _ => .bad
def dIxA (x y : D) (S : Store) : Out D := if isDictD x S = true then dIxD x y S else dIx x y S
section
variable {X : Cx} {CA : Str → Addr} {W : WX} {e a b o : Expr} {pos apos cpos : Pos} {ma mb mo mk md : ME}
theorem bin_or {f f1 f2 : D → D → Store → Out D} (h : ∀ x y S, f x y S = f1 x y S ∨ f x y S = f2 x y S) {σ : St} {H : Hp} {Q : VK} (q : tE X.K CA W (mBin f ma mb) σ H Q) : tE X.K CA W (mBin f1 ma mb) σ H Q ∨ tE X.K CA W (mBin f2 ma mb) σ H Q := by
  obtain ⟨α, S, en, R, Er, q⟩ := q
  cases e1 : ma en S with
  | ok x S1 =>
    cases e2 : mb en S1 with
    | ok y S2 =>
      have z : ∀ g, mBin g ma mb en S = g x y S2 := fun g => by unfold mBin; rw [e1]; simp only [Out.bind]; rw [e2]
      rw [z] at q
      rcases h x y S2 with e | e
      · exact .inl ⟨α, S, en, R, Er, by rw [z, ← e]; exact q⟩
      · exact .inr ⟨α, S, en, R, Er, by rw [z, ← e]; exact q⟩
    | exc c d S2 => exact .inl ⟨α, S, en, R, Er, by unfold mBin at q ⊢; rw [e1] at q ⊢; simp only [Out.bind] at q ⊢; rw [e2] at q ⊢; exact q⟩
    | bad => exact .inl ⟨α, S, en, R, Er, by unfold mBin at q ⊢; rw [e1] at q ⊢; simp only [Out.bind] at q ⊢; rw [e2] at q ⊢; exact q⟩
  | exc c d S1 => exact .inl ⟨α, S, en, R, Er, by unfold mBin at q ⊢; rw [e1] at q ⊢; exact q⟩
  | bad => exact .inl ⟨α, S, en, R, Er, by unfold mBin at q ⊢; rw [e1] at q ⊢; exact q⟩
/-- the pieces of a binary reading -/
theorem bin_parts {f : D → D → Store → Out D} {σ : St} {H : Hp} {Q : VK} {R' : V → V → Hp → Prop} (q : tE X.K CA W (mBin f ma mb) σ H Q)
    (k : ∀ α S H x y dx dy, HRep X.K CA α H S → Rep X.K α H dx x → Rep X.K α H dy y → okE X.K CA α H (f dx dy S) Q (WE W σ) → R' x y H) : tE X.K CA W ma σ H fun x H1 => tE X.K CA W mb σ H1 fun y H2 => R' x y H2 := by
  obtain ⟨α, S, en, R, Er, q⟩ := q
  exact ⟨α, S, en, R, Er, (okO.bind (R := RD X.K) q).imp fun x H1 ⟨d, S1, α1, g1, R1, r1, q1⟩ => ⟨α1, S1, en, R1, ERep.mono g1 _ _ Er, (okO.bind (R := RD X.K) q1).imp fun y H2 ⟨d2, S2, α2, g2, R2, r2, q2⟩ => k α2 S2 H2 x y d d2 R2 (Rep.mono g2 _ _ r1) r2 q2⟩⟩
theorem ce_ixD (hu : X.A.units + 1 < cLine) (ha : PE X a (tE X.K CA W ma)) (hb : PE X b (tE X.K CA W mb)) (hs : NoSl b := by intro _ _; rfl) : PE X (.Subscript a b pos) (tE X.K CA W (mBin dIxD ma mb)) := (pe_dget hu ha hb hs).imp fun σ H Q q => bin_parts q fun α S H x y dx dy R rx ry q => by
  unfold dIxD at q
  cases e : dictGet dx dy S with
  | none => rw [e] at q; exact q.elim
  | some r => cases r with
    | none => rw [e] at q; exact q.elim
    | some d =>
      rw [e] at q
      obtain ⟨a, o, e1, e2, _, e3⟩ := dget_ok R rx ry e
      obtain ⟨v, rfl, rv⟩ := e3 d rfl
      exact ⟨a, v, e1, e2, okE.val q R rv⟩
theorem ce_ixA (hu : X.A.units + 1 < cLine) (ha : PE X a (tE X.K CA W ma)) (hb : PE X b (tE X.K CA W mb)) (hs : PlainIx b := by intro _ _; rfl) (hs2 : NoSl b := by intro _ _; rfl) : PE X (.Subscript a b pos) (tE X.K CA W (mBin dIxA ma mb)) :=
  (L2.PE.or (ce_ixD hu ha hb hs2) (ce_ix ha hb hs)).imp fun σ H Q q => bin_or (fun x y S => by unfold dIxA; by_cases h : isDictD x S = true; exact .inl (if_pos h); exact .inr (if_neg h)) q

/-! ### in -/
def dInD (x y : D) (S : Store) : Out D := match dictGet y x S with
  | some r => .ok (.bl r.isSome) S
  | none => .bad
def dNotInD (x y : D) (S : Store) : Out D := match dictGet y x S with
  | some r => .ok (.bl (!r.isSome)) S
  | none => .bad
def flatD : D → Option V
  | .non => some .non
  | .bl b => some (.bl b)
  | .int i => some (.int i)
  | .str x => some (.str x)
  | _ => none
def dInT (neg : Bool) (x y : D) (S : Store) : Out D := match y with
  | .tup ys => match flatD x, allO flatD ys with
    | some v, some vs => .ok (.bl (if neg then !inV v vs else inV v vs)) S
    | _, _ => .bad
  | .kt ys => match flatD x, allO flatD ys with
    | some v, some vs => .ok (.bl (if neg then !inV v vs else inV v vs)) S
    | _, _ => .bad
  | _ => .bad
def dInS (neg : Bool) (x y : D) (S : Store) : Out D := match x, y with
  | .str c, .str z => match c.cps.toList with
    | [k] => .ok (.bl (if neg then !decide (k ∈ z.cps.toList) else decide (k ∈ z.cps.toList))) S
    | _ => .bad
  | _, _ => .bad
/-- in a list, a tuple, a text -/
def dInA (x y : D) (S : Store) : Out D := match y with
  | .ref _ => dInL x y S
  | .str _ => dInS false x y S
  | _ => dInT false x y S
def dNotInA (x y : D) (S : Store) : Out D := match y with
  | .ref _ => dNotInL x y S
  | .str _ => dInS true x y S
  | _ => dInT true x y S
def dIn (x y : D) (S : Store) : Out D := if isDictD y S = true then dInD x y S else dInA x y S
def dNotIn (x y : D) (S : Store) : Out D := if isDictD y S = true then dNotInD x y S else dNotInA x y S
theorem flat_ok {K : PySem.W.Frag} {α : List Addr} {H : Hp} {d : D} {v w : V} (h : flatD d = some w) (r : Rep K α H d v) : v = w ∧ flatV w = true := by
  cases d with
  | non => cases h; exact ⟨r, rfl⟩
  | bl b => cases h; exact ⟨r, rfl⟩
  | int b => cases h; exact ⟨r, rfl⟩
  | str b => cases h; exact ⟨r, rfl⟩
  | _ => cases h
theorem flats_ok {K : PySem.W.Frag} {α : List Addr} {H : Hp} : ∀ {ds : List D} {vs ws : List V}, allO flatD ds = some ws → RepAll K α H ds vs → vs = ws ∧ ws.all flatV = true
  | [], vs, ws, h, r => by
    have : ws = [] := by simpa [allO] using h.symm
    rw [this]; exact ⟨r, rfl⟩
  | d :: ds, _, ws, h, ⟨v, r, e, a, b⟩ => by
    obtain ⟨y, ys, h1, h2, rfl⟩ := allO_cons h
    obtain ⟨a1, a2⟩ := flat_ok h1 a
    obtain ⟨b1, b2⟩ := flats_ok h2 b
    rw [e, a1, b1]
    exact ⟨rfl, by rw [List.all_cons, a2, b2]; rfl⟩
theorem rr_inT {K : PySem.W.Frag} {neg : Bool} : RR K CA (rIn K neg) (dInT neg) := by
  intro α H S dx dy x y Q E R rx ry q
  unfold dInT at q
  split at q
  · rename_i ys
    obtain ⟨a, vs, rfl, t, ra⟩ := ry
    split at q
    · rename_i v ws h1 h2
      obtain ⟨rfl, f1⟩ := flat_ok h1 rx
      obtain ⟨rfl, f2⟩ := flats_ok h2 ra
      exact ⟨a, _, rfl, .inr (SqT.of t), f1, f2, okE.val q R rfl⟩
    · exact q.elim
  · rename_i ys
    obtain ⟨a, vs, rfl, t, ra⟩ := ry
    split at q
    · rename_i v ws h1 h2
      obtain ⟨rfl, f1⟩ := flat_ok h1 rx
      obtain ⟨rfl, f2⟩ := flats_ok h2 ra
      exact ⟨a, _, rfl, .inr (.inr t), f1, f2, okE.val q R rfl⟩
    · exact q.elim
  · exact q.elim
theorem str_one {c : Str} {k : Nat} (h : c.cps.toList = [k]) : c = ⟨#[k]⟩ := by
  obtain ⟨a⟩ := c
  have : a = #[k] := by
    apply Array.toList_inj.mp
    simpa using h
  rw [this]
theorem rr_inS {K : PySem.W.Frag} : RR K CA (fun x y H Q => ∃ (c : Nat) (z : Str), x = .str ⟨#[c]⟩ ∧ y = .str z ∧ Q (.bl (decide (c ∈ z.cps.toList))) H) (dInS false) := by
  intro α H S dx dy x y Q E R rx ry q
  unfold dInS at q
  split at q
  · rename_i c z
    split at q
    · rename_i k hk
      exact ⟨k, z, by rw [← str_one hk]; exact rx, ry, okE.val q R rfl⟩
    · exact q.elim
  · exact q.elim
theorem rr_notInS {K : PySem.W.Frag} : RR K CA (fun x y H Q => ∃ (c : Nat) (z : Str), x = .str ⟨#[c]⟩ ∧ y = .str z ∧ Q (.bl (!decide (c ∈ z.cps.toList))) H) (dInS true) := by
  intro α H S dx dy x y Q E R rx ry q
  unfold dInS at q
  split at q
  · rename_i c z
    split at q
    · rename_i k hk
      exact ⟨k, z, by rw [← str_one hk]; exact rx, ry, okE.val q R rfl⟩
    · exact q.elim
  · exact q.elim
theorem rr_inA {K : PySem.W.Frag} : RR K CA (fun x y H Q => rInD K x y H Q ∨ rIn K false x y H Q ∨ ∃ (c : Nat) (z : Str), x = .str ⟨#[c]⟩ ∧ y = .str z ∧ Q (.bl (decide (c ∈ z.cps.toList))) H) dInA := by
  intro α H S dx dy x y Q E R rx ry q
  cases dy with
  | ref n => exact .inl (rr_inL α H S dx _ x y Q E R rx ry q)
  | str z => exact .inr (.inr (rr_inS α H S dx _ x y Q E R rx ry q))
  | _ => exact .inr (.inl (rr_inT α H S dx _ x y Q E R rx ry q))
theorem rr_notInA {K : PySem.W.Frag} : RR K CA (fun x y H Q => rNotInD K x y H Q ∨ rIn K true x y H Q ∨ ∃ (c : Nat) (z : Str), x = .str ⟨#[c]⟩ ∧ y = .str z ∧ Q (.bl (!decide (c ∈ z.cps.toList))) H) dNotInA := by
  intro α H S dx dy x y Q E R rx ry q
  cases dy with
  | ref n => exact .inl (rr_notInL α H S dx _ x y Q E R rx ry q)
  | str z => exact .inr (.inr (rr_notInS α H S dx _ x y Q E R rx ry q))
  | _ => exact .inr (.inl (rr_inT α H S dx _ x y Q E R rx ry q))
theorem hu65 {k : Nat} {A : Around} (hr : Room k A) : A.units + 65 < cLine := by have := hr.un; omega
theorem isSome_of {r : Option D} {o : Option V} {P : D → V → Prop} (e3 : r = none → o = none) (e4 : ∀ d, r = some d → ∃ v, o = some v ∧ P d v) : o.isSome = r.isSome := by
  cases r with
  | none => rw [e3 rfl] <;> rfl
  | some d => obtain ⟨v, rfl, _⟩ := e4 d rfl; rfl
theorem in_read {σ : St} {H : Hp} {Q : VK} (q : tE X.K CA W (mBin dInD ma mb) σ H Q) : tDIn (tE X.K CA W ma) (tE X.K CA W mb) σ H Q := bin_parts q fun α S H x y dx dy R rx ry q => by
  unfold dInD at q
  cases e : dictGet dy dx S with
  | none => rw [e] at q; exact q.elim
  | some r =>
    rw [e] at q
    obtain ⟨a, o, e1, e2, e3, e4⟩ := dget_ok R ry rx e
    refine ⟨a, o, e1, e2, ?_⟩
    rw [isSome_of e3 e4]
    exact okE.val q R rfl
theorem notin_read {σ : St} {H : Hp} {Q : VK} (q : tE X.K CA W (mBin dNotInD ma mb) σ H Q) : tDNotIn (tE X.K CA W ma) (tE X.K CA W mb) σ H Q := bin_parts q fun α S H x y dx dy R rx ry q => by
  unfold dNotInD at q
  cases e : dictGet dy dx S with
  | none => rw [e] at q; exact q.elim
  | some r =>
    rw [e] at q
    obtain ⟨a, o, e1, e2, e3, e4⟩ := dget_ok R ry rx e
    refine ⟨a, o, e1, e2, ?_⟩
    rw [isSome_of e3 e4]
    exact okE.val q R rfl
theorem test_in {m : ME} {σ : St} {H : Hp} {Q : Bool → Hp → Prop} (q : tT X.K CA W (mTest m) σ H Q) : tE X.K CA W m σ H fun x H' => ∃ k, x = .bl k ∧ Q k H' := by
  obtain ⟨α, S, en, R, Er, q⟩ := q
  exact ⟨α, S, en, R, Er, (okO.bind (R := RD X.K) q).imp fun x H1 ⟨d, S1, α1, g1, R1, r1, q1⟩ => by
    cases d with
    | bl b => exact ⟨b, r1, q1 α1 H1 b (Grow.refl _ _) R1 rfl⟩
    | _ => exact q1.elim⟩
theorem in_or {σ : St} {H : Hp} {Q : VK} (q : tE X.K CA W (mBin dIn ma mb) σ H Q) : tE X.K CA W (mBin dInD ma mb) σ H Q ∨ tE X.K CA W (mBin dInA ma mb) σ H Q := bin_or (fun x y S => by unfold dIn; by_cases h : isDictD y S = true; exact .inl (if_pos h); exact .inr (if_neg h)) q
theorem notin_or {σ : St} {H : Hp} {Q : VK} (q : tE X.K CA W (mBin dNotIn ma mb) σ H Q) : tE X.K CA W (mBin dNotInD ma mb) σ H Q ∨ tE X.K CA W (mBin dNotInA ma mb) σ H Q := bin_or (fun x y S => by unfold dNotIn; by_cases h : isDictD y S = true; exact .inl (if_pos h); exact .inr (if_neg h)) q
theorem _root_.L2.PT.or {X : Cx} {e : Expr} {t u : TT} (h : PT X e t) (k : PT X e u) : PT X e (fun σ H Q => t σ H Q ∨ u σ H Q) := ⟨fun pins s σ H Q I q => q.elim (h.run pins s σ H Q I) (k.run pins s σ H Q I)⟩
theorem ce_inA (hu : X.A.units + 65 < cLine) (ha : PE X a (tE X.K CA W ma)) (hb : PE X b (tE X.K CA W mb)) (hm : behindInMarks .In b = false := by rfl) : PE X (.Compare a [.In] [b] pos) (tE X.K CA W (mBin dIn ma mb)) :=
  (L2.PE.or (pe_cmp (pc_din (by omega) ha hb) hm) (pe_cmpR ((op_inD hu).or (op_in_seq.or op_in_sign)) ha hb hm)).imp fun σ H Q q => (in_or q).imp in_read (two_of rr_inA σ H Q)
theorem ce_notInA (hu : X.A.units + 65 < cLine) (ha : PE X a (tE X.K CA W ma)) (hb : PE X b (tE X.K CA W mb)) (hm : behindInMarks .NotIn b = false := by rfl) : PE X (.Compare a [.NotIn] [b] pos) (tE X.K CA W (mBin dNotIn ma mb)) :=
  (L2.PE.or (pe_cmp (pc_dnotin (by omega) ha hb) hm) (pe_cmpR ((op_notInD hu).or (op_notIn_seq.or op_notIn_sign)) ha hb hm)).imp fun σ H Q q => (notin_or q).imp notin_read (two_of rr_notInA σ H Q)
theorem ct_inA (hu : X.A.units + 65 < cLine) (ha : PE X a (tE X.K CA W ma)) (hb : PE X b (tE X.K CA W mb)) (hm : behindInMarks .In b = false := by rfl) : PT X (.Compare a [.In] [b] pos) (tT X.K CA W (mTest (mBin dIn ma mb))) :=
  (L2.PT.or (pt_cmp (pc_din (by omega) ha hb) hm) (pt_cmpR ((op_inD hu).or (op_in_seq.or op_in_sign)) ha hb hm)).imp fun σ H Q q => (in_or (test_in q)).imp in_read (two_of rr_inA σ H _)
theorem ct_notInA (hu : X.A.units + 65 < cLine) (ha : PE X a (tE X.K CA W ma)) (hb : PE X b (tE X.K CA W mb)) (hm : behindInMarks .NotIn b = false := by rfl) : PT X (.Compare a [.NotIn] [b] pos) (tT X.K CA W (mTest (mBin dNotIn ma mb))) :=
  (L2.PT.or (pt_cmp (pc_dnotin (by omega) ha hb) hm) (pt_cmpR ((op_notInD hu).or (op_notIn_seq.or op_notIn_sign)) ha hb hm)).imp fun σ H Q q => (notin_or (test_in q)).imp notin_read (two_of rr_notInA σ H _)

/-! ### chains of two comparisons of whole numbers -/
def mChain (f g : D → D → Store → Out D) (a b k : ME) : ME := fun e S => (a e S).bind fun x S1 => (b e S1).bind fun y S2 => (f x y S2).bind fun r S3 => match r with
  | .bl true => (k e S3).bind fun z S4 => g y z S4
  | .bl false => .ok (.bl false) S3
  | _ => .bad
theorem chain_of {r r' : R2} {f g : D → D → Store → Out D} (hr : RR X.K CA r f) (hr' : RR X.K CA r' g) {σ : St} {H : Hp} {Q : VK} (q : tE X.K CA W (mChain f g ma mb mk) σ H Q) : tChain r r' (tE X.K CA W ma) (tE X.K CA W mb) (tE X.K CA W mk) σ H Q := by
  obtain ⟨α, S, en, R, Er, q⟩ := q
  refine ⟨α, S, en, R, Er, (okO.bind (R := RD X.K) q).imp fun x H1 ⟨d, S1, α1, g1, R1, r1, q1⟩ => ⟨α1, S1, en, R1, ERep.mono g1 _ _ Er, (okO.bind (R := RD X.K) q1).imp fun y H2 ⟨d2, S2, α2, g2, R2, r2, q2⟩ => ?_⟩⟩
  refine hr α2 H2 S2 d d2 x y _ (WE W σ) R2 (Rep.mono g2 _ _ r1) r2 ((okO.bind (R := RD X.K) q2).imp fun z H3 ⟨d3, S3, α3, g3, R3, r3, q3⟩ => ?_)
  cases d3 with
  | bl c =>
    refine ⟨c, r3, ?_⟩
    cases c with
    | true =>
      rw [if_pos rfl]
      exact ⟨α3, S3, en, R3, ERep.mono (g1.trans (g2.trans g3)) _ _ Er, (okO.bind (R := RD X.K) q3).imp fun w H4 ⟨d4, S4, α4, g4, R4, r4, q4⟩ => hr' α4 H4 S4 d2 d4 y w Q _ R4 (Rep.mono (g3.trans g4) _ _ r2) r4 q4⟩
    | false => rw [if_neg (by decide)]; exact okE.val q3 R3 rfl
  | _ => exact q3.elim
theorem ce_chain {op op' : CmpOp} {c : Expr} {r r' : R2} {f g : D → D → Store → Out D} (ho : OpR X (compareOp op) r) (hr : RR X.K CA r f) (ho' : OpR X (compareOp op') r') (hr' : RR X.K CA r' g) (ha : PE X a (tE X.K CA W ma)) (hb : PE X b (tE X.K CA W mb)) (hc : PE X c (tE X.K CA W mk))
    (hm : lastMarks [op, op'] [b, c] = false := by with_unfolding_all rfl) : PE X (.Compare a [op, op'] [b, c] pos) (tE X.K CA W (mChain f g ma mb mk)) := (pe_chain ho ho' ha hb hc hm).imp fun σ H Q q => chain_of hr hr' q
theorem ct_chain {op op' : CmpOp} {c : Expr} {r r' : R2} {f g : D → D → Store → Out D} (ho : OpR X (compareOp op) r) (hr : RR X.K CA r f) (ho' : OpR X (compareOp op') r') (hr' : RR X.K CA r' g) (ha : PE X a (tE X.K CA W ma)) (hb : PE X b (tE X.K CA W mb)) (hc : PE X c (tE X.K CA W mk))
    (hm : lastMarks [op, op'] [b, c] = false := by with_unfolding_all rfl) : PT X (.Compare a [op, op'] [b, c] pos) (tT X.K CA W (mTest (mChain f g ma mb mk))) := (pt_chain ho ho' ha hb hc hm).imp fun σ H Q q => chain_of hr hr' (test_in q)

/-! ### dict stores, gets, displays -/
/-- o[i] = v, o a list or a dict -/
def setIxL (x y v : D) (S : Store) : Option Store := match x with
  | .ref n => match S[n]? with
    | some (.lst false xs) => match y with
      | .int i => match ixN xs.length i with
        | some j => some (S.set n (.lst false (xs.set j v)))
        | none => none
      | _ => none
    | _ => none
  | _ => none
def setIxD (x y v : D) (S : Store) : Option Store := if isLst x S = true then setIxL x y v S else dictPut x y v S
def mSetIxG (f : D → D → D → Store → Option Store) (mo mi mv : ME) : MS := fun e S => (mv e S).fl e fun v S1 => (mo e S1).fl e fun x S2 => (mi e S2).fl e fun y S3 => match f x y v S3 with
  | some S4 => .nx e S4
  | none => .bad
abbrev mSetIx := mSetIxG setIxD
theorem set_or {f f1 f2 : D → D → D → Store → Option Store} (h : ∀ x y v S, f x y v S = f1 x y v S ∨ f x y v S = f2 x y v S) {mi mv : ME} {De : Ends} {σ : St} {H : Hp} (q : tS X.K CA W (mSetIxG f mo mi mv) De σ H) : tS X.K CA W (mSetIxG f1 mo mi mv) De σ H ∨ tS X.K CA W (mSetIxG f2 mo mi mv) De σ H := by
  obtain ⟨α, S, en, R, Er, q⟩ := q
  have z : (∃ (v : D) (S1 : Store) (x : D) (S2 : Store) (y : D) (S3 : Store), ∀ g, mSetIxG g mo mi mv en S = match g x y v S3 with | some S4 => .nx en S4 | none => .bad) ∨ ∀ g, mSetIxG g mo mi mv en S = mSetIxG f mo mi mv en S := by
    cases e1 : mv en S with
    | ok v S1 =>
      cases e2 : mo en S1 with
      | ok x S2 =>
        cases e3 : mi en S2 with
        | ok y S3 => exact .inl ⟨v, S1, x, S2, y, S3, fun g => by unfold mSetIxG; rw [e1]; simp only [Out.fl]; rw [e2]; simp only; rw [e3]⟩
        | exc c d S3 => exact .inr fun g => by unfold mSetIxG; rw [e1]; simp only [Out.fl]; rw [e2]; simp only; rw [e3]
        | bad => exact .inr fun g => by unfold mSetIxG; rw [e1]; simp only [Out.fl]; rw [e2]; simp only; rw [e3]
      | exc c d S2 => exact .inr fun g => by unfold mSetIxG; rw [e1]; simp only [Out.fl]; rw [e2]
      | bad => exact .inr fun g => by unfold mSetIxG; rw [e1]; simp only [Out.fl]; rw [e2]
    | exc c d S1 => exact .inr fun g => by unfold mSetIxG; rw [e1] <;> rfl
    | bad => exact .inr fun g => by unfold mSetIxG; rw [e1] <;> rfl
  rcases z with ⟨v, S1, x, S2, y, S3, z⟩ | z
  · rcases h x y v S3 with e | e
    · exact .inl ⟨α, S, en, R, Er, by rw [z] at q ⊢; rw [← e]; exact q⟩
    · exact .inr ⟨α, S, en, R, Er, by rw [z] at q ⊢; rw [← e]; exact q⟩
  · exact .inl ⟨α, S, en, R, Er, by rw [z f1]; exact q⟩
theorem set_parts {f : D → D → D → Store → Option Store} {mi mv : ME} {De : Ends} {σ : St} {H : Hp} {R' : V → V → V → Hp → Prop} (q : tS X.K CA W (mSetIxG f mo mi mv) De σ H) (k : ∀ α S H x y v dx dy dv S4, HRep X.K CA α H S → Rep X.K α H dx x → Rep X.K α H dy y → Rep X.K α H dv v → f dx dy dv S = some S4 → (∀ α' H', Grow α H α' H' → HRep X.K CA α' H' S4 → De.nx σ H') → R' v x y H) :
    tE X.K CA W mv σ H fun v H1 => tE X.K CA W mo σ H1 fun x H2 => tE X.K CA W mi σ H2 fun y H3 => R' v x y H3 := by
  obtain ⟨α, S, en, R, Er, q⟩ := q
  exact ⟨α, S, en, R, Er, (okS.fl (R := RD X.K) Er q).imp fun v H1 ⟨d, S1, α1, g1, R1, r1, q1⟩ => ⟨α1, S1, en, R1, ERep.mono g1 _ _ Er, (okS.fl (R := RD X.K) (ERep.mono g1 _ _ Er) q1).imp fun x H2 ⟨d2, S2, α2, g2, R2, r2, q2⟩ =>
    ⟨α2, S2, en, R2, ERep.mono (g1.trans g2) _ _ Er, (okS.fl (R := RD X.K) (ERep.mono (g1.trans g2) _ _ Er) q2).imp fun y H3 ⟨d3, S3, α3, g3, R3, r3, q3⟩ => by
      cases e : f d2 d3 d S3 with
      | none => simp only [e] at q3; exact q3.elim
      | some S4 =>
        simp only [e] at q3
        exact k α3 S3 H3 x y v d2 d3 d S4 R3 (Rep.mono g3 _ _ r2) r3 (Rep.mono (g2.trans g3) _ _ r1) e fun α' H' g R4 => q3 α' H' σ g R4 (ERep.mono (g1.trans (g2.trans (g3.trans g))) _ _ Er)⟩⟩⟩
theorem setL_ok {α : List Addr} {H : Hp} {S S4 : Store} {dx dy dv : D} {x y v : V} (R : HRep X.K CA α H S) (rx : Rep X.K α H dx x) (ry : Rep X.K α H dy y) (rv : Rep X.K α H dv v) (h : setIxL dx dy dv S = some S4) :
    ∃ p xs k j, x = .ref p ∧ y = .int k ∧ H p = some (.lst xs) ∧ ixN xs.length k = some j ∧ Grow α H α (upd H p (.lst (xs.set j v))) ∧ HRep X.K CA α (upd H p (.lst (xs.set j v))) S4 := by
  cases dx with
  | ref n =>
    unfold setIxL at h
    simp only at h
    split at h
    · rename_i xs e
      split at h
      · rename_i i
        split at h
        · rename_i j hj
          cases h
          obtain ⟨a, rfl, ha⟩ := rx
          obtain ⟨vs, h1, ra⟩ := cell_false R e ha
          exact ⟨a, vs, i, j, rfl, ry, h1, by rw [ra.length]; exact hj, Grow.upd h1 trivial, R.write (c' := .lst false (xs.set j dv)) ha e rfl h1 trivial rfl fun H2 e2 g => ⟨_, by rw [e2]; exact upd_same, (RepAll.mono g _ _ ra).set j (Rep.mono g _ _ rv)⟩⟩
        · cases h
      · cases h
    · cases h
  | _ => cases h
theorem cs_setIx {i value : Expr} {mi mv : ME} {pos' : Pos} (hu : X.A.units + 1 < cLine) (ho : PE X o (tE X.K CA W mo)) (hi : PE X i (tE X.K CA W mi)) (hv : PE X value (tE X.K CA W mv))
    (hs : swapsWith value (some (.Subscript o i pos')) pos.line X.env = pure false := by rfl)
    (hs1 : swapsWithSole [.Subscript o i pos'] value pos.line X.env = pure false := by rfl) (hw : swappedStores [.Subscript o i pos'] value X.env = pure none := by rfl)
    (h1 : (assignEach [.Subscript o i pos'] X.env).map (·.2) = [assign (.Subscript o i pos') X.env] := by rfl)
    (ha : ∀ v, assign (.Subscript o i pos') X.env v = (do
      let ov ← holding [v] (eval o X.env)
      let iv ← holding [v, ov] (eval i X.env)
      standAt pos'
      holding [v, ov, iv] (setItem ov iv v)
      release [v, ov, iv] []) := by intro _; rfl) : PS X (.Assign [.Subscript o i pos'] value pos) (tS X.K CA W (mSetIx mo mi mv)) :=
  (L2.PS.or (ps_asg (pos := pos) hv (pg_sub (pos := pos') ho hi set_list ha) hs1 hw h1) (ps_dput (pos := pos) (pos' := pos') hu ho hi hv hs)).imp fun De σ H q =>
    (set_or (f1 := setIxL) (f2 := dictPut) (fun x y v S => by unfold setIxD; by_cases h : isLst x S = true; exact .inl (if_pos h); exact .inr (if_neg h)) q).imp
      (fun q => set_parts q fun α S H x y v dx dy dv S4 R rx ry rv e k => by
        obtain ⟨p, xs, j, l, e1, e2, e3, e4, g, R4⟩ := setL_ok R rx ry rv e
        exact ⟨p, xs, j, l, e1, e2, e3, e4, k _ _ g R4⟩)
      (fun q => set_parts q fun α S H x y v dx dy dv S4 R rx ry rv e k => by
        obtain ⟨a, H', e1, e2, g, R4⟩ := dput_ok R rx ry rv e
        exact ⟨a, H', e1, e2, k _ _ g R4⟩)
/-- {} whose keys will be ints and texts | tuples -/
def mDkNew : ME := fun _ S => .ok (.ref S.length) (S ++ [.dk false []])
def mDtNew : ME := fun _ S => .ok (.ref S.length) (S ++ [.dt false []])
theorem ce_dkNew : PE X (.Dict [] [] pos) (tE X.K CA W mDkNew) := pe_dnewK.imp fun σ H Q ⟨α, S, en, R, Er, q⟩ p hp => okE.cell q R hp fun H2 e g => ⟨[], by rw [e]; exact upd_same, RepKV.nil⟩
theorem ce_dtNew : PE X (.Dict [] [] pos) (tE X.K CA W mDtNew) := pe_dnewT.imp fun σ H Q ⟨α, S, en, R, Er, q⟩ p hp => okE.cell q R hp fun H2 e g => ⟨[], by rw [e]; exact upd_same, RepKV.nil⟩
/-- d.get(k), d.get(k, z) -/
def mGet1 (mo mk : ME) : ME := fun e S => (mo e S).bind fun x S1 => if isDictD x S1 = true then (mk e S1).bind fun y S2 => match dictGet x y S2 with
    | some r => .ok (r.getD .non) S2
    | none => .bad
  else .bad
def mGet2 (mo mk mz : ME) : ME := fun e S => (mo e S).bind fun x S1 => if isDictD x S1 = true then (mk e S1).bind fun y S2 => (mz e S2).bind fun z S3 => match dictGet x y S3 with
    | some r => .ok (r.getD z) S3
    | none => .bad
  else .bad
theorem ce_get1 (hu : X.A.units + 1 < cLine) (ho : PE X o (tE X.K CA W mo)) (hk : PE X e (tE X.K CA W mk))
    (m : M1 X o "get" apos e cpos := by exact ⟨by rfl, by rfl, by rfl, by rfl⟩) :
    PE X (.Call (.Attribute o "get" apos) [e] [] cpos) (tE X.K CA W (mGet1 mo mk)) := (pe_dget1 hu ho hk m).imp fun σ H Q ⟨α, S, en, R, Er, q⟩ =>
  ⟨α, S, en, R, Er, (okO.bind (R := RD X.K) q).imp fun x H1 ⟨d, S1, α1, g1, R1, r1, q1⟩ => by
    by_cases h : isDictD d S1 = true
    · rw [if_pos h] at q1
      obtain ⟨a, rfl, hd⟩ := isD_ok R1 r1 h
      refine ⟨a, rfl, hd, α1, S1, en, R1, ERep.mono g1 _ _ Er, (okO.bind (R := RD X.K) q1).imp fun y H2 ⟨d2, S2, α2, g2, R2, r2, q2⟩ => ?_⟩
      cases e1 : dictGet d d2 S2 with
      | none => simp only [e1] at q2; exact q2.elim
      | some r =>
        simp only [e1] at q2
        obtain ⟨a', o, e2, e3, e4, e5⟩ := dget_ok R2 (Rep.mono g2 _ _ r1) r2 e1
        cases e2
        refine ⟨o, e3, ?_⟩
        cases r with
        | none => rw [e4 rfl]; exact okE.val q2 R2 rfl
        | some d => obtain ⟨v, rfl, rv⟩ := e5 d rfl; exact okE.val q2 R2 rv
    · rw [if_neg h] at q1; exact q1.elim⟩
theorem ce_get2 {f : Expr} {mz : ME} (hu : X.A.units + 1 < cLine) (ho : PE X o (tE X.K CA W mo)) (hk : PE X e (tE X.K CA W mk)) (hz : PE X f (tE X.K CA W mz)) (m : M2 X o "get" apos e f cpos := by exact ⟨by rfl, by rfl, by rfl, by rfl⟩) :
    PE X (.Call (.Attribute o "get" apos) [e, f] [] cpos) (tE X.K CA W (mGet2 mo mk mz)) := (pe_dget2 hu ho hk hz m).imp fun σ H Q ⟨α, S, en, R, Er, q⟩ =>
  ⟨α, S, en, R, Er, (okO.bind (R := RD X.K) q).imp fun x H1 ⟨d, S1, α1, g1, R1, r1, q1⟩ => by
    by_cases h : isDictD d S1 = true
    · rw [if_pos h] at q1
      obtain ⟨a, rfl, hd⟩ := isD_ok R1 r1 h
      refine ⟨a, rfl, hd, α1, S1, en, R1, ERep.mono g1 _ _ Er, (okO.bind (R := RD X.K) q1).imp fun y H2 ⟨d2, S2, α2, g2, R2, r2, q2⟩ => ⟨α2, S2, en, R2, ERep.mono (g1.trans g2) _ _ Er, (okO.bind (R := RD X.K) q2).imp fun z H3 ⟨d3, S3, α3, g3, R3, r3, q3⟩ => ?_⟩⟩
      cases e1 : dictGet d d2 S3 with
      | none => simp only [e1] at q3; exact q3.elim
      | some r =>
        simp only [e1] at q3
        obtain ⟨a', o, e2, e3, e4, e5⟩ := dget_ok R3 (Rep.mono (g2.trans g3) _ _ r1) (Rep.mono g3 _ _ r2) e1
        cases e2
        refine ⟨o, e3, ?_⟩
        cases r with
        | none => rw [e4 rfl]; exact okE.val q3 R3 r3
        | some d => obtain ⟨v, rfl, rv⟩ := e5 d rfl; exact okE.val q3 R3 rv
    · rw [if_neg h] at q1; exact q1.elim⟩
end
end M

/-! MEnd: defs with and without defaults as the top leaves them; a law's end. -/
namespace M
open PySem L2
open PyProof.Rows (envOfC)
abbrev FunS (K : PySem.W.Frag) (x qual : Str) (st : Stmt) (dvs : List V) (f : Addr) (fd : FuncData) : Prop := FunD K x qual (defArgs st) (defBody st) (defScope st) dvs [] f fd
section
variable {P : Program} {w : World} {K : PySem.W.Frag} {mg : Str → Option Value} {base : Heap} {CA : Str → Addr}
theorem fs_mk {x qual : Str} {st : Stmt} {f : Addr} {oc : Value} {od an : Option Addr} {osl : Array (Option Value)} {kV doc pm cdv ct : Value} (l : K.lookup f = some ⟨oc, od, .func (PySem.W.fnOf x qual (defArgs st) (defBody st) (defScope st) .none kV doc pm an cdv ct), osl⟩)
    (c : PySem.W.codeIn K cdv qual = true) (k : PySem.W.keepIn K (.ref f) = true) : FunS K x qual st [] f (PySem.W.fnOf x qual (defArgs st) (defBody st) (defScope st) .none kV doc pm an cdv ct) := ⟨⟨oc, od, .none, kV, doc, pm, an, cdv, ct, osl, rfl, l, c, .inl ⟨rfl, rfl⟩, .inl rfl⟩, k⟩
/-- with defaults: they stand in the tuple at t -/
theorem fs_mkD {x qual : Str} {st : Stmt} {f t : Addr} {oc oct : Value} {od odt an : Option Addr} {osl oslt : Array (Option Value)} {kV doc pm cdv ct : Value} {its : List Value} {n : Nat} {dvs : List V} (l : K.lookup f = some ⟨oc, od, .func (PySem.W.fnOf x qual (defArgs st) (defBody st) (defScope st) (.ref t) kV doc pm an cdv ct), osl⟩)
    (c : PySem.W.codeIn K cdv qual = true) (k : PySem.W.keepIn K (.ref f) = true) (lt : K.lookup t = some ⟨oct, odt, .seq its.toArray n, oslt⟩) (hd : Vals dvs its) (hne : dvs ≠ []) : FunS K x qual st dvs f (PySem.W.fnOf x qual (defArgs st) (defBody st) (defScope st) (.ref t) kV doc pm an cdv ct) :=
  ⟨⟨oc, od, .ref t, kV, doc, pm, an, cdv, ct, osl, rfl, l, c, .inr ⟨hne, t, _, its, n, rfl, lt, rfl, hd⟩, .inl rfl⟩, k⟩
/-- THE RULE: a def does what its body's plain meaning says -/
theorem def_do {x qual : Str} {st : Stmt} {f : Addr} {fd : FuncData} {dvs : List V} {N ps : List Str} {k n tot : Nat} {b : MS} (F : FunS K x qual st dvs f fd) (Sc : FnScope N ps (defScope st)) (hn : ps.length = n) (ht : N.length = tot)
    (hb : ∀ (cdv : Value) (A : Around) (outer : List Env) (s : Shared) (H : Hp) (E : XK), Room k (A.deeper (envOfC qual (defScope st) s.heap.objs.size f cdv)) →
      PSs (cxOf (L2.CX P w) P w K mg base N qual (defScope st) f cdv A outer s H E) (defBody st) (tS K CA (fun c d _ H' => E c d H') b)) : FnOk P w K mg base (L2.CX P w) (k + 1) f fd ps (spM K CA (runDef n tot b)) := by
  subst hn
  subst ht
  refine FunD.ok F Sc (fun vs H Q E h => spM_len h) fun cdv A outer s H vs Q E hr h => ⟨_, hb cdv A outer s H E hr, ?_⟩
  have hl := spM_len h
  obtain ⟨α, S, ds, R, r, q⟩ := h
  unfold runDef at q
  have l : ds.length = ps.length := by rw [← r.length, hl]
  rw [if_pos l] at q
  refine ⟨α, S, ds.map some ++ List.replicate (N.length - ps.length) none, R, ?_, ?_⟩
  · show ERep K α H _ (vs.map some ++ List.replicate (N.length - vs.length) none)
    rw [hl]
    exact ERep.of_all _ r
  · cases e : b (ds.map some ++ List.replicate (N.length - ps.length) none) S with
    | nx e1 S1 => rw [e] at q; exact fun α' H' σ' g a _ => q α' H' .non g a rfl
    | rt d S1 => rw [e] at q; exact fun α' H' v g a r => q α' H' v g a r
    | exc c d e1 S1 => rw [e] at q; exact fun α' H' σ' dd v g a _ r x => q α' H' dd v g a r x
    | bk e1 S1 => rw [e] at q; exact q.elim
    | ct e1 S1 => rw [e] at q; exact q.elim
    | bad => rw [e] at q; exact q.elim
/-- all arguments written -/
theorem gdef_all {a : Addr} {fd : FuncData} {ps : List Str} {k : Nat} {x : Str} {f : List D → Store → Out D} (h : FnOk P w K mg base (L2.CX P w) k a fd ps (spM K CA f)) (hm : mg x = some (.ref a)) (hk : PySem.W.keepIn K (.ref a) = true) (hb : Binds K fd ps []) : GDef P w K mg base CA k x f [] := ⟨a, fd, ps, [], [], h, hm, hk, hb, .nil, fun _ _ => rfl⟩
theorem gdef_dfl {a : Addr} {fd : FuncData} {ps : List Str} {k : Nat} {x : Str} {f : List D → Store → Out D} {dvs : List V} {dds : List D} (h : FnOk P w K mg base (L2.CX P w) k a fd ps (spM K CA f)) (hm : mg x = some (.ref a)) (hk : PySem.W.keepIn K (.ref a) = true) (hb : ∃ ds, Vals dvs ds ∧ Binds K fd ps ds) (hd : ∀ α H, RepAll K α H dds dvs) : GDef P w K mg base CA k x f dds := by
  obtain ⟨ds, h1, h2⟩ := hb
  exact ⟨a, fd, ps, ds, dvs, h, hm, hk, h2, h1, hd⟩
theorem gmeth_all {a : Addr} {fd : FuncData} {ps : List Str} {k : Nat} {c m : Str} {f : List D → Store → Out D} (h : FnOk P w K mg base (L2.CX P w) k a fd ps (spM K CA f)) (hc : Cls K (CA c)) (hm : Meth K (CA c) m a) (hb : Binds K fd ps []) : GMeth P w K mg base CA k c m f [] := ⟨a, fd, ps, [], [], h, hc, hm, hb, .nil, fun _ _ => rfl⟩
theorem gmeth_dfl {a : Addr} {fd : FuncData} {ps : List Str} {k : Nat} {c m : Str} {f : List D → Store → Out D} {dvs : List V} {dds : List D} (h : FnOk P w K mg base (L2.CX P w) k a fd ps (spM K CA f)) (hc : Cls K (CA c)) (hm : Meth K (CA c) m a) (hb : ∃ ds, Vals dvs ds ∧ Binds K fd ps ds) (hd : ∀ α H, RepAll K α H dds dvs) : GMeth P w K mg base CA k c m f dds := by
  obtain ⟨ds, h1, h2⟩ := hb
  exact ⟨a, fd, ps, ds, dvs, h, hc, hm, h2, h1, hd⟩
theorem gmake_all {a : Addr} {fd : FuncData} {ps : List Str} {k : Nat} {c : Str} {f : List D → Store → Out D} (h : FnOk P w K mg base (L2.CX P w) k a fd ps (spM K CA f)) (hc : mg c = some (.ref (CA c))) (hm : Mk K (CA c) a) (hb : Binds K fd ps []) : GMake P w K mg base CA k c f [] := ⟨a, fd, ps, [], [], h, hc, hm, hb, .nil, fun _ _ => rfl⟩
theorem gmake_dfl {a : Addr} {fd : FuncData} {ps : List Str} {k : Nat} {c : Str} {f : List D → Store → Out D} {dvs : List V} {dds : List D} (h : FnOk P w K mg base (L2.CX P w) k a fd ps (spM K CA f)) (hc : mg c = some (.ref (CA c))) (hm : Mk K (CA c) a) (hb : ∃ ds, Vals dvs ds ∧ Binds K fd ps ds) (hd : ∀ α H, RepAll K α H dds dvs) : GMake P w K mg base CA k c f dds := by
  obtain ⟨ds, h1, h2⟩ := hb
  exact ⟨a, fd, ps, ds, dvs, h, hc, hm, h2, h1, hd⟩
theorem gmeth_mono {j k : Nat} {c m : Str} {f : List D → Store → Out D} {dds : List D} (h : GMeth P w K mg base CA j c m f dds) (l : j ≤ k) : GMeth P w K mg base CA k c m f dds := by
  obtain ⟨a, fd, ps, ds, dvs, F, r⟩ := h.ex
  exact ⟨a, fd, ps, ds, dvs, F.mono l, r⟩
/-- the class's place by its name -/
def caOf (mg : Str → Option Value) (x : Str) : Addr := match mg x with
  | some (.ref a) => a
  | _ => 0
theorem caOf_eq {x : Str} {a : Addr} (h : mg x = some (.ref a)) : caOf mg x = a := by unfold caOf; rw [h]
/-- law's promise -/
def spL (K : PySem.W.Frag) : Sp := fun vs H Q _ => ∃ (a : Addr) (ns : List Int), vs = [.ref a] ∧ ns.length ≤ 63 ∧ Only H ∧ SqL K H a (ns.map V.int) ∧ ∀ H', Q (.bl true) H'
theorem law_imp {f : List D → Store → Out D} (hl : ∀ ns : List Int, ns.length ≤ 63 → ∃ S', f [.ref 0] [.lst true (ns.map D.int)] = .ok (.bl true) S') : ∀ vs H Q E, spL K vs H Q E → spM K CA f vs H Q E := by
  rintro vs H Q E ⟨a, ns, rfl, hn, hO, hS, k⟩
  obtain ⟨S', e⟩ := hl ns hn
  have hF : FrL K H a (ns.map V.int) := by
    rcases hS with (h | ⟨o, h⟩) | h
    · rcases hO a with z | ⟨o, xs, z⟩
      · rw [z] at h; cases h
      · rw [z] at h; cases h
    · exact .inl ⟨o, h⟩
    · exact .inr h
  refine ⟨[a], [.lst true (ns.map D.int)], [.ref 0], ⟨rfl, ?_, ?_⟩, ⟨_, _, rfl, ⟨a, rfl, rfl⟩, rfl⟩, ?_⟩
  · intro n b c hb hc
    cases n with
    | zero => cases hb; cases hc; exact ⟨_, hF, RepAll.of_ints ns⟩
    | succ n => simp at hb
  · intro n m b c c' hb hb' hc hc' _ _
    cases n with
    | zero => cases m with
      | zero => rfl
      | succ m => simp at hb'
    | succ n => simp at hb
  · rw [e]
    intro α' H' v _ _ r
    have : v = .bl true := r
    rw [this]
    exact k H'
end
theorem walkL {l : PySem.W.OpenLaw} {q : Program} {loose : List Str} {XP : (Str → Option Value) → Heap → Prop} {YP : World → Heap → Prop} {d : DefRec} {K : Params → PySem.W.Frag} {k : Nat} (hk : Room k callerA) (hn : l.most = some 63) (hdf : d.params.defaults = [])
    (hY : ∀ (w : World) (h : Heap), YP w h → (K w.params).In h)
    (F : ∀ (w : World) (mg : Str → Option Value) (fa : Addr) (h : Heap), (K w.params).In h → h.Ns mainGlobals mg → mg d.name = some (.ref fa) →
      ∃ fd : FuncData, (∀ (s : Shared) (u : Value), BindsTo s fd ⟨[u], []⟩ [("_law_script", u)]) ∧ ∀ base : Heap, (K w.params).In base → base.Ns mainGlobals mg → FnOk l.prog w (K w.params) mg base (L2.CX l.prog w) k fa fd ["_law_script"] (spL (K w.params))) :
    PySem.W.WalkO q loose XP YP l.row.toRowW d [] (fun f vs => PySem.call f vs) :=
  L2.walk_of (n := 63) (k := k) (x := "_law_script") (CX := fun w => L2.CX l.prog w) (sp := fun w => spL (K w.params)) hn (by rw [sizeLine_eq]; decide) hdf hk hY F (fun _ H a ns hl hO hS => ⟨a, ns, rfl, hl, hO, hS, fun _ => rfl⟩) fun _ _ _ _ _ h => by
    obtain ⟨_, _, _, _, _, _, _, _, _, _, _, _, z⟩ := h
    exact z.elim
end M

/-! MMore: further built-ins. -/
namespace M
open PySem L2
def blD : D → Option Bool
  | .bl b => some b
  | _ => none
def intD : D → Option Int
  | .int b => some b
  | _ => none
def dAll (ds : List D) (S : Store) : Out D := match ds with
  | [.ref n] => match S[n]? with
    | some (.lst _ xs) => match allO blD xs with
      | some bs => .ok (.bl (bs.all id)) S
      | none => .bad
    | _ => .bad
  | _ => .bad
def dSum (ds : List D) (S : Store) : Out D := match ds with
  | [.ref n] => match S[n]? with
    | some (.lst _ xs) => match allO intD xs with
      | some is => .ok (.int is.sum) S
      | none => .bad
    | _ => .bad
  | _ => .bad
theorem bls_ok {K : PySem.W.Frag} {α : List Addr} {H : Hp} : ∀ {ds : List D} {vs : List V} {bs : List Bool}, allO blD ds = some bs → RepAll K α H ds vs → vs = bs.map V.bl
  | [], vs, bs, h, r => by
    have : bs = [] := by simpa [allO] using h.symm
    subst this
    exact r
  | d :: ds, vs, bs, h, r => by
    obtain ⟨y, ys, h1, h2, rfl⟩ := allO_cons h
    obtain ⟨v, r', rfl, rv, rr⟩ := r
    cases d with
    | bl b => cases h1; rw [show v = .bl _ from rv, bls_ok h2 rr] <;> rfl
    | _ => cases h1
theorem ints_ok {K : PySem.W.Frag} {α : List Addr} {H : Hp} : ∀ {ds : List D} {vs : List V} {bs : List Int}, allO intD ds = some bs → RepAll K α H ds vs → vs = bs.map V.int
  | [], vs, bs, h, r => by
    have : bs = [] := by simpa [allO] using h.symm
    subst this
    exact r
  | d :: ds, vs, bs, h, r => by
    obtain ⟨y, ys, h1, h2, rfl⟩ := allO_cons h
    obtain ⟨v, r', rfl, rv, rr⟩ := r
    cases d with
    | int b => cases h1; rw [show v = .int _ from rv, ints_ok h2 rr] <;> rfl
    | _ => cases h1
section
variable {X : Cx} {CA : Str → Addr} {W : WX} {e o : Expr} {pos p apos cpos : Pos} {es : List Expr} {ms : List ME} {mo m : ME}
theorem rc_all : RCall X.K CA (rAll X.K) dAll := by
  intro α H S ds vs Q E R r q
  unfold dAll at q
  split at q
  · rename_i n
    obtain ⟨v, rfl, a, rfl, ha⟩ := RepAll.one r
    split at q
    · rename_i f xs e
      obtain ⟨vs, sq, ra⟩ := sq_cell (R.ok n a _ ha e)
      split at q
      · rename_i bs h
        rw [bls_ok h ra] at sq
        exact ⟨a, bs, rfl, sq, okE.val q R rfl⟩
      · exact q.elim
    · exact q.elim
  · exact q.elim
theorem rc_sum : RCall X.K CA (rSum X.K) dSum := by
  intro α H S ds vs Q E R r q
  unfold dSum at q
  split at q
  · rename_i n
    obtain ⟨v, rfl, a, rfl, ha⟩ := RepAll.one r
    split at q
    · rename_i f xs e
      obtain ⟨vs, sq, ra⟩ := sq_cell (R.ok n a _ ha e)
      split at q
      · rename_i bs h
        rw [ints_ok h ra] at sq
        exact ⟨a, bs, rfl, sq, okE.val q R rfl⟩
      · exact q.elim
    · exact q.elim
  · exact q.elim
theorem ce_all (hc : X.calm = true) (hm : X.mg "all" = none) (ha : PA X [e] (tA X.K CA W (mArgs ms))) (hg : Gl X "all" := by rfl) (he : starEach [e] X.env = (false, eval e X.env) :: starEach [] X.env := by rfl) (hpl : (backTo pos (starEach [] X.env)).any (·.1) = false := by rfl) : PE X (.Call (.Name "all" p) [e] [] pos) (tE X.K CA W (mCall dAll ms)) :=
  ce_callB (cr_all hc) rc_all hm (by decide +kernel) ha hg (by decide) (by decide) he hpl
theorem ce_sum (hc : X.calm = true) (hm : X.mg "sum" = none) (ha : PA X [e] (tA X.K CA W (mArgs ms))) (hg : Gl X "sum" := by rfl) (he : starEach [e] X.env = (false, eval e X.env) :: starEach [] X.env := by rfl) (hpl : (backTo pos (starEach [] X.env)).any (·.1) = false := by rfl) : PE X (.Call (.Name "sum" p) [e] [] pos) (tE X.K CA W (mCall dSum ms)) :=
  ce_callB (cr_sum hc) rc_sum hm (by decide +kernel) ha hg (by decide) (by decide) he hpl
end
/-! ### a text times a whole number -/
def mulS (z : Str) (n : Int) : Str := if n < 1 then Str.empty else if (n == 1 || z.length == 0) = true then z else ⟨(List.replicate n.toNat z.cps).foldl (· ++ ·) #[]⟩
theorem op_mulS {X : Cx} : OpR X (binaryOp .Mult) (fun x y H Q => ∃ z n, x = .str z ∧ y = .int n ∧ -(2 ^ 63) ≤ n ∧ n ≤ 1000000 ∧ z.length * n.toNat ≤ sizeLine ∧ z.length ≤ 1000000 ∧ (mulS z n).length ≤ sizeLine ∧ Q (.str (mulS z n)) H) := by
  intro pins s σ H x y v u Q I rx ry h
  obtain ⟨z, n, rfl, rfl, h1, h2, h3, h4, h5, q⟩ := h
  obtain ⟨t, rfl⟩ := rx
  obtain ⟨t', rfl⟩ := ry
  refine PySem.P.mul_str (by
    have a : ¬ n < -(2 ^ 63) := by omega
    have b : ¬ n ≥ 2 ^ 63 := by omega
    rw [decide_eq_false a, decide_eq_false b]; rfl) (fun g _ => ?_) (fun _ _ => ?_) ?_
  · have g1 : 1 ≤ n := by omega
    have g2 : (1000000 : Int) ≤ (2 ^ 63 - 1) / n := by
      refine (Int.le_ediv_iff_mul_le (by omega)).mpr ?_
      omega
    omega
  · unfold Builtin.Str.tooLong
    exact decide_eq_false (Nat.not_lt.mpr h3)
  · unfold mulS at q h5
    by_cases g : n < 1
    · rw [if_pos g] at q ⊢
      exact ⟨by decide, .str Str.empty, H, I.tok _, ⟨_, rfl⟩, q⟩
    · rw [if_neg g] at q ⊢
      by_cases g2 : (n == 1 || z.length == 0) = true
      · rw [if_pos g2] at q ⊢
        exact ⟨.str z, H, I.tok _, ⟨_, rfl⟩, q⟩
      · rw [if_neg g, if_neg g2] at h5
        rw [if_neg g2] at q ⊢
        exact ⟨h5, .str _, H, I.tok _, ⟨_, rfl⟩, q⟩
def dMulS (x y : D) (S : Store) : Out D := match x, y with
  | .str z, .int n => if -(2 ^ 63) ≤ n ∧ n ≤ 1000000 ∧ z.length * n.toNat ≤ LIM ∧ z.length ≤ 1000000 ∧ (mulS z n).length ≤ LIM then .ok (.str (mulS z n)) S else .bad
  | _, _ => .bad
def dMulA (x y : D) (S : Store) : Out D := match x with
  | .str _ => dMulS x y S
  | _ => dMul x y S
theorem rr_mulS {K : PySem.W.Frag} {CA : Str → Addr} : RR K CA (fun x y H Q => ∃ z n, x = .str z ∧ y = .int n ∧ -(2 ^ 63) ≤ n ∧ n ≤ 1000000 ∧ z.length * n.toNat ≤ sizeLine ∧ z.length ≤ 1000000 ∧ (mulS z n).length ≤ sizeLine ∧ Q (.str (mulS z n)) H) dMulS := by
  intro α H S dx dy x y Q E R rx ry q
  unfold dMulS at q
  split at q
  · rename_i z n
    split at q
    · rename_i c
      exact ⟨z, n, rx, ry, c.1, c.2.1, lim_line c.2.2.1, c.2.2.2.1, lim_line c.2.2.2.2, okE.val q R rfl⟩
    · exact q.elim
  · exact q.elim
section
variable {X : Cx} {CA : Str → Addr} {W : WX} {a b : Expr} {pos : Pos} {ma mb : ME}
theorem ce_mulA (ha : PE X a (tE X.K CA W ma)) (hb : PE X b (tE X.K CA W mb)) : PE X (.BinOp a .Mult b pos) (tE X.K CA W (mBin dMulA ma mb)) :=
  ((ce_mul ha hb).or (ce_bin op_mulS rr_mulS ha hb)).imp fun σ H Q q => bin_or (fun x y S => by
    unfold dMulA
    cases x with
    | str z => exact .inr rfl
    | _ => exact .inl rfl) q
end
/-! ### a table of methods -/
section
variable {P : Program} {w : World} {K : PySem.W.Frag} {mg : Str → Option Value} {base : Heap} {CA : Str → Addr} {k : Nat} {m : Str} {dds : List D}
theorem tab_nil : ∀ (c : Str) (f : List D → Store → Out D), ([] : MTab).lookup c = some f → GMeth P w K mg base CA k c m f dds := fun c f h => by simp at h
theorem tab_cons {c0 : Str} {f0 : List D → Store → Out D} {tab : MTab} (h0 : GMeth P w K mg base CA k c0 m f0 dds) (h : ∀ c f, tab.lookup c = some f → GMeth P w K mg base CA k c m f dds) : ∀ (c : Str) (f : List D → Store → Out D), ((c0, f0) :: tab).lookup c = some f → GMeth P w K mg base CA k c m f dds := fun c f hc => by
  rw [List.lookup_cons] at hc
  by_cases e : (c == c0) = true
  · rw [e] at hc
    cases hc
    rw [eq_of_beq e]
    exact h0
  · rw [Bool.eq_false_iff.mpr e] at hc
    exact h c f hc
end
end M

/-! MEval: how plain meanings are reckoned: rewriting rules, loops by what holds between the turns. -/
namespace M
open PySem L2

/-! what the lists of slots come to -/
theorem set_zero' {α : Type} (x y : α) (l : List α) : (x :: l).set 0 y = y :: l := rfl
theorem set_succ' {α : Type} (x y : α) (l : List α) (n : Nat) : (x :: l).set (n + 1) y = x :: l.set n y := rfl
theorem map_nil' {α β : Type} (f : α → β) : ([] : List α).map f = [] := rfl
theorem map_cons' {α β : Type} (f : α → β) (x : α) (l : List α) : (x :: l).map f = f x :: l.map f := rfl
theorem app_nil' {α : Type} (l : List α) : [] ++ l = l := rfl
theorem app_cons' {α : Type} (x : α) (l r : List α) : (x :: l) ++ r = x :: (l ++ r) := rfl
theorem app_end' {α : Type} (l : List α) : l ++ [] = l := List.append_nil l
theorem rep_zero' {α : Type} (x : α) : List.replicate 0 x = [] := rfl
theorem rep_succ' {α : Type} (x : α) (n : Nat) : List.replicate (n + 1) x = x :: List.replicate n x := rfl
theorem len_nil' {α : Type} : ([] : List α).length = 0 := rfl
theorem ite_t {α : Type} (a b : α) : (if true = true then a else b) = a := rfl
theorem ite_f {α : Type} (a b : α) : (if false = true then a else b) = b := rfl
theorem not_t' : (!true) = false := rfl
theorem not_f' : (!false) = true := rfl
theorem beq_t' : (true == true) = true := rfl
theorem beq_f' : (false == false) = true := rfl
theorem beq_tf' : (true == false) = false := rfl
theorem beq_ft' : (false == true) = false := rfl
section
variable {e : DEnv} {S : Store} {α β : Type}
@[simp] theorem bind_ok (a : α) (S : Store) (f : α → Store → Out β) : (Out.ok a S).bind f = f a S := rfl
@[simp] theorem bind_exc (c : Str) (d : D) (S : Store) (f : α → Store → Out β) : (Out.exc c d S).bind f = .exc c d S := rfl
@[simp] theorem bind_bad (f : α → Store → Out β) : (Out.bad).bind f = .bad := rfl
@[simp] theorem fl_ok (a : α) (S : Store) (f : α → Store → Fl) : (Out.ok a S).fl e f = f a S := rfl
@[simp] theorem fl_exc (c : Str) (d : D) (S : Store) (f : α → Store → Fl) : (Out.exc c d S).fl e f = .exc c d e S := rfl
@[simp] theorem fl_bad (f : α → Store → Fl) : (Out.bad : Out α).fl e f = .bad := rfl
@[simp] theorem mNil_eq : mNil e S = .nx e S := rfl
@[simp] theorem mSeq_eq (a b : MS) : mSeq a b e S = match a e S with | .nx e1 S1 => b e1 S1 | f => f := rfl
@[simp] theorem mSet_eq (i : Nat) (m : ME) : mSet i m e S = (m e S).fl e fun d S1 => .nx (e.set i (some d)) S1 := rfl
@[simp] theorem mRet_eq (m : ME) : mRet m e S = (m e S).fl e fun d S1 => .rt d S1 := rfl
@[simp] theorem mRetN_eq : mRetN e S = .rt .non S := rfl
@[simp] theorem mDrop_eq (m : ME) : mDrop m e S = (m e S).fl e fun _ S1 => .nx e S1 := rfl
@[simp] theorem mIfS_eq (c : MT) (a b : MS) : mIfS c a b e S = (c e S).fl e fun k S1 => if k = true then a e S1 else b e S1 := rfl
@[simp] theorem mBreak_eq : mBreak e S = .bk e S := rfl
@[simp] theorem mCont_eq : mCont e S = .ct e S := rfl
@[simp] theorem mAsg_eq (t : Tg) (m : ME) : mAsg t m e S = (m e S).fl e fun d S1 => match tgSet t d e with | some e1 => .nx e1 S1 | none => .bad := rfl
@[simp] theorem tgSet_one (i : Nat) (d : D) : tgSet (.one i) d e = some (e.set i (some d)) := rfl
@[simp] theorem tgSet_many (is : List Nat) (ds : List D) : tgSet (.many is) (.tup ds) e = if ds.length = is.length then some (setAll e is ds) else none := rfl
@[simp] theorem setAll_nil (ds : List D) : setAll e [] ds = e := by cases ds <;> rfl
@[simp] theorem setAll_cons (i : Nat) (is : List Nat) (d : D) (ds : List D) : setAll e (i :: is) (d :: ds) = setAll (e.set i (some d)) is ds := rfl
@[simp] theorem mC_eq (d : D) : mC d e S = .ok d S := rfl
@[simp] theorem mVar_zero (d : D) (e : DEnv) : mVar 0 (some d :: e) S = .ok d S := rfl
@[simp] theorem mVar_succ (n : Nat) (x : Option D) (e : DEnv) : mVar (n + 1) (x :: e) S = mVar n e S := by simp [mVar]
@[simp] theorem mBin_eq (f : D → D → Store → Out D) (a b : ME) : mBin f a b e S = (a e S).bind fun x S1 => (b e S1).bind fun y S2 => f x y S2 := rfl
@[simp] theorem mUn_eq (f : D → Store → Out D) (a : ME) : mUn f a e S = (a e S).bind fun x S1 => f x S1 := rfl
@[simp] theorem mArgs_nil : mArgs [] e S = .ok [] S := rfl
@[simp] theorem mArgs_cons (m : ME) (ms : List ME) : mArgs (m :: ms) e S = (m e S).bind fun x S1 => (mArgs ms e S1).bind fun xs S2 => .ok (x :: xs) S2 := rfl
@[simp] theorem mTup_eq (ms : List ME) : mTup ms e S = (mArgs ms e S).bind fun ds S1 => .ok (.tup ds) S1 := rfl
@[simp] theorem mLst_eq (ms : List ME) : mLst ms e S = (mArgs ms e S).bind fun ds S1 => .ok (.ref S1.length) (S1 ++ [.lst false ds]) := rfl
@[simp] theorem mCall_eq (f : List D → Store → Out D) (ms : List ME) : mCall f ms e S = (mArgs ms e S).bind fun ds S1 => f ds S1 := rfl
@[simp] theorem mCallD_nil (f : List D → Store → Out D) (ms : List ME) : mCallD f [] ms e S = (mArgs ms e S).bind fun ds S1 => f ds S1 := by unfold mCallD; simp
theorem mCallD_eq (f : List D → Store → Out D) (dds : List D) (ms : List ME) : mCallD f dds ms e S = (mArgs ms e S).bind fun ds S1 => f (ds ++ dds) S1 := rfl
@[simp] theorem mTest_eq (m : ME) : mTest m e S = (m e S).bind fun d S1 => dBool d S1 := rfl
@[simp] theorem dBool_bl (b : Bool) : dBool (.bl b) S = .ok b S := rfl
@[simp] theorem mTruth_eq (m : ME) : mTruth m e S = (m e S).bind fun d S1 => dTru d S1 := rfl
@[simp] theorem dTru_bl (b : Bool) : dTru (.bl b) S = .ok b S := rfl
@[simp] theorem mAndT_eq (a b : MT) : mAndT a b e S = (a e S).bind fun c S1 => if c = true then b e S1 else .ok false S1 := rfl
@[simp] theorem mOrT_eq (a b : MT) : mOrT a b e S = (a e S).bind fun c S1 => if c = true then .ok true S1 else b e S1 := rfl
@[simp] theorem mNotT_eq (a : MT) : mNotT a e S = (a e S).bind fun c S1 => .ok (!c) S1 := rfl
@[simp] theorem mAnd_eq (a b : ME) : mAnd a b e S = (a e S).bind fun x S1 => match x with | .bl true => b e S1 | .bl false => .ok (.bl false) S1 | _ => .bad := rfl
@[simp] theorem mOr_eq (a b : ME) : mOr a b e S = (a e S).bind fun x S1 => match x with | .bl true => .ok (.bl true) S1 | .bl false => b e S1 | _ => .bad := rfl
@[simp] theorem mNot_eq (a : ME) : mNot a e S = (a e S).bind fun x S1 => match x with | .bl b => .ok (.bl (!b)) S1 | _ => .bad := rfl
@[simp] theorem mIf_eq (c : MT) (a b : ME) : mIf c a b e S = (c e S).bind fun k S1 => if k = true then a e S1 else b e S1 := rfl
@[simp] theorem dII_eq (f : Int → Int → D) (i j : Int) : dII f (.int i) (.int j) S = .ok (f i j) S := rfl
theorem dIIc_eq {c : Int → Int → Prop} [∀ i j, Decidable (c i j)] (f : Int → Int → D) {i j : Int} (h : c i j) : dIIc c f (.int i) (.int j) S = .ok (f i j) S := by unfold dIIc; exact if_pos h
@[simp] theorem dAdd_int (i j : Int) : dAdd (.int i) (.int j) S = .ok (.int (i + j)) S := rfl
@[simp] theorem dMod_pos (i : Int) (j : Int) (h : 0 < j) : dMod (.int i) (.int j) S = .ok (.int (i % j)) S := dIIc_eq _ h
@[simp] theorem dFdiv_pos (i : Int) (j : Int) (h : 0 < j) (h2 : j < 1073741824) : dFdiv (.int i) (.int j) S = .ok (.int (i / j)) S := dIIc_eq _ ⟨h, h2⟩
theorem dMul_l {i j : Int} (h : -(2 ^ 64) < i ∧ i < 2 ^ 64) : dMul (.int i) (.int j) S = .ok (.int (i * j)) S := dIIc_eq _ (.inl h)
theorem dMul_r {i j : Int} (h : -(2 ^ 64) < j ∧ j < 2 ^ 64) : dMul (.int i) (.int j) S = .ok (.int (i * j)) S := dIIc_eq _ (.inr h)
@[simp] theorem dShr_nn (i : Int) (j : Int) (h : 0 ≤ j) : dShr (.int i) (.int j) S = .ok (.int (i / 2 ^ j.toNat)) S := dIIc_eq _ h
theorem dShl_nn {i j : Int} (h : 0 ≤ j ∧ j ≤ 1000000 ∧ i.natAbs < 2 ^ 64) : dShl (.int i) (.int j) S = .ok (.int (i * 2 ^ j.toNat)) S := dIIc_eq _ h
theorem dPow_nn {i j : Int} (h : 0 ≤ j ∧ j ≤ 1000000 ∧ i.natAbs < 2 ^ 64) : dPow (.int i) (.int j) S = .ok (.int (i ^ j.toNat)) S := dIIc_eq _ h
@[simp] theorem pyD_int (n : Nat) (i : Int) : pyD S n (.int i) = some (.int i) := by cases n <;> rfl
@[simp] theorem pyD_bl (n : Nat) (i : Bool) : pyD S n (.bl i) = some (.bool i) := by cases n <;> rfl
@[simp] theorem pyD_non (n : Nat) : pyD S n .non = some .none := by cases n <;> rfl
@[simp] theorem dEq_int (i j : Int) : dEq (.int i) (.int j) S = .ok (.bl (i == j)) S := by simp [dEq, PyData.eqv]
@[simp] theorem dNe_int (i j : Int) : dNe (.int i) (.int j) S = .ok (.bl (!(i == j))) S := by simp [dNe, PyData.eqv]
@[simp] theorem dEq_bl (i j : Bool) : dEq (.bl i) (.bl j) S = .ok (.bl (i == j)) S := by simp [dEq, PyData.eqv]
@[simp] theorem dNe_bl (i j : Bool) : dNe (.bl i) (.bl j) S = .ok (.bl (!(i == j))) S := by simp [dNe, PyData.eqv]
@[simp] theorem isInst_int_int (i : Int) : dIsInst "int" (.int i) S = .ok (.bl true) S := rfl
@[simp] theorem isInst_bool_int (i : Int) : dIsInst "bool" (.int i) S = .ok (.bl false) S := rfl
@[simp] theorem isInst_bool_bl (i : Bool) : dIsInst "bool" (.bl i) S = .ok (.bl true) S := rfl
@[simp] theorem isInst_int_bl (i : Bool) : dIsInst "int" (.bl i) S = .ok (.bl true) S := rfl
theorem isInst_list {n : Nat} {xs : List D} (h : S[n]? = some (.lst false xs)) : dIsInst "list" (.ref n) S = .ok (.bl true) S := by unfold dIsInst kindOf; simp only [h]; rfl
theorem dLen_lst {n : Nat} {f : Bool} {xs : List D} (h : S[n]? = some (.lst f xs)) : dLen [.ref n] S = .ok (.int xs.length) S := by simp [dLen, h]
theorem dList_lst {n : Nat} {f : Bool} {xs : List D} (h : S[n]? = some (.lst f xs)) : dList [.ref n] S = .ok (.ref S.length) (S ++ [.lst false xs]) := by simp [dList, h]
theorem dAppend_lst {n : Nat} {xs : List D} {y : D} (h : S[n]? = some (.lst false xs)) (l : xs.length < LIM) : dAppend (.ref n) [y] S = .ok .non (S.set n (.lst false (xs ++ [y]))) := by simp [dAppend, h, l]
theorem isLst_lst {n : Nat} {f : Bool} {xs : List D} (h : S[n]? = some (.lst f xs)) : isLst (.ref n) S = true := by simp [isLst, h]
@[simp] theorem mBM_eq (isT : D → Store → Bool) (f : D → List D → Store → Out D) (mo : ME) (ms : List ME) : mBM isT f mo ms e S = (mo e S).bind fun x S1 => if isT x S1 = true then (mArgs ms e S1).bind fun ds S2 => f x ds S2 else .bad := rfl
theorem dIx_lst {n : Nat} {f : Bool} {xs : List D} {i : Int} {d : D} (h : S[n]? = some (.lst f xs)) (ha : atI xs i = some d) : dIxA (.ref n) (.int i) S = .ok d S := by simp [dIxA, isDictD, dIx, dIxL, h, ha]
theorem dIx_tup {xs : List D} {i : Int} {d : D} (ha : atI xs i = some d) : dIxA (.tup xs) (.int i) S = .ok d S := by simp [dIxA, isDictD, dIx, dIxT, ha]
end
theorem atI_nat' {α : Type} {xs : List α} {j : Nat} {i : Int} {v : α} (e : i = (j : Int)) (h : xs[j]? = some v) : atI xs i = some v := by rw [e]; exact atI_nat h
/-- a body's start -/
theorem runDef_eq {n tot : Nat} {b : MS} {ds : List D} {S : Store} (h : ds.length = n) : runDef n tot b ds S = outF (b (ds.map some ++ List.replicate (tot - n) none) S) := by unfold runDef; rw [if_pos h]
@[simp] theorem run0 {tot : Nat} {b : MS} {S : Store} : runDef 0 tot b [] S = outF (b (List.replicate (tot - 0) none) S) := rfl
@[simp] theorem run1 {tot : Nat} {b : MS} {d0 : D} {S : Store} : runDef 1 tot b [d0] S = outF (b (some d0 :: List.replicate (tot - 1) none) S) := rfl
@[simp] theorem run2 {tot : Nat} {b : MS} {d0 d1 : D} {S : Store} : runDef 2 tot b [d0, d1] S = outF (b (some d0 :: some d1 :: List.replicate (tot - 2) none) S) := rfl
@[simp] theorem run3 {tot : Nat} {b : MS} {d0 d1 d2 : D} {S : Store} : runDef 3 tot b [d0, d1, d2] S = outF (b (some d0 :: some d1 :: some d2 :: List.replicate (tot - 3) none) S) := rfl
@[simp] theorem run4 {tot : Nat} {b : MS} {d0 d1 d2 d3 : D} {S : Store} : runDef 4 tot b [d0, d1, d2, d3] S = outF (b (some d0 :: some d1 :: some d2 :: some d3 :: List.replicate (tot - 4) none) S) := rfl
@[simp] theorem run5 {tot : Nat} {b : MS} {d0 d1 d2 d3 d4 : D} {S : Store} : runDef 5 tot b [d0, d1, d2, d3, d4] S = outF (b (some d0 :: some d1 :: some d2 :: some d3 :: some d4 :: List.replicate (tot - 5) none) S) := rfl
@[simp] theorem run6 {tot : Nat} {b : MS} {d0 d1 d2 d3 d4 d5 : D} {S : Store} : runDef 6 tot b [d0, d1, d2, d3, d4, d5] S = outF (b (some d0 :: some d1 :: some d2 :: some d3 :: some d4 :: some d5 :: List.replicate (tot - 6) none) S) := rfl
@[simp] theorem run7 {tot : Nat} {b : MS} {d0 d1 d2 d3 d4 d5 d6 : D} {S : Store} : runDef 7 tot b [d0, d1, d2, d3, d4, d5, d6] S = outF (b (some d0 :: some d1 :: some d2 :: some d3 :: some d4 :: some d5 :: some d6 :: List.replicate (tot - 7) none) S) := rfl
@[simp] theorem outF_nx (e : DEnv) (S : Store) : outF (.nx e S) = .ok .non S := rfl
@[simp] theorem outF_rt (d : D) (S : Store) : outF (.rt d S) = .ok d S := rfl
@[simp] theorem outF_exc (c : Str) (d : D) (e : DEnv) (S : Store) : outF (.exc c d e S) = .exc c d S := rfl
/-- a for loop of n turns, by what holds ahead of each turn -/
theorem loop_rule {it : ItD} {t : Tg} {b : MS} {n : Nat} (I : Nat → DEnv → Store → Prop) (Post : Fl → Prop) {e : DEnv} {S : Store} (h0 : I 0 e S)
    (hs : ∀ i e S, i < n → I i e S → ∃ d e1, stepIt S it i = some (some d) ∧ tgSet t d e = some e1 ∧ match b e1 S with
      | .nx e2 S2 => I (i + 1) e2 S2
      | .ct e2 S2 => I (i + 1) e2 S2
      | .bk e2 S2 => Post (.nx e2 S2)
      | .bad => False
      | f => Post f)
    (hn : ∀ e S, I n e S → stepIt S it n = some none ∧ Post (.nx e S)) : Post (mLoop it t b 0 e S) := by
  have key : ∀ k i e S, i + k = n → I i e S → Post (mLoop it t b i e S) := by
    intro k
    induction k with
    | zero =>
      intro i e S hi h
      have : i = n := by omega
      subst this
      obtain ⟨h1, h2⟩ := hn e S h
      rw [mLoop_eq, forStep, h1]
      exact h2
    | succ k ih =>
      intro i e S hi h
      obtain ⟨d, e1, h1, h2, h3⟩ := hs i e S (by omega) h
      rw [mLoop_eq, forStep, h1]
      simp only [h2]
      cases hb : b e1 S with
      | nx e2 S2 => rw [hb] at h3; exact ih (i + 1) e2 S2 (by omega) h3
      | ct e2 S2 => rw [hb] at h3; exact ih (i + 1) e2 S2 (by omega) h3
      | bk e2 S2 => rw [hb] at h3; exact h3
      | rt d S2 => rw [hb] at h3; exact h3
      | exc c d e2 S2 => rw [hb] at h3; exact h3
      | bad => rw [hb] at h3; exact h3.elim
  exact key n 0 e S (by omega) h0
/-- a while loop, by what holds ahead of each turn and a number that falls -/
theorem while_rule {c : MT} {b : MS} (I : Nat → DEnv → Store → Prop) (Post : Fl → Prop) {e : DEnv} {S : Store} {n : Nat} (h0 : I n e S)
    (hs : ∀ i e S, I i e S → (∃ S1, c e S = .ok false S1 ∧ Post (.nx e S1)) ∨ ∃ S1, c e S = .ok true S1 ∧ match b e S1 with
      | .nx e2 S2 => ∃ j, j < i ∧ I j e2 S2
      | .ct e2 S2 => ∃ j, j < i ∧ I j e2 S2
      | .bk e2 S2 => Post (.nx e2 S2)
      | .bad => False
      | f => Post f) : Post (mWhile c b e S) := by
  induction n using Nat.strongRecOn generalizing e S with
  | ind n ih =>
    rw [mWhile_eq, whStep]
    rcases hs n e S h0 with ⟨S1, h1, h2⟩ | ⟨S1, h1, h2⟩
    · rw [h1]; exact h2
    · rw [h1]
      show Post (turnF (b e S1) (mWhile c b))
      cases hb : b e S1 with
      | nx e2 S2 => rw [hb] at h2; obtain ⟨j, hj, h3⟩ := h2; exact ih j hj h3
      | ct e2 S2 => rw [hb] at h2; obtain ⟨j, hj, h3⟩ := h2; exact ih j hj h3
      | bk e2 S2 => rw [hb] at h2; exact h2
      | rt d S2 => rw [hb] at h2; exact h2
      | exc c d e2 S2 => rw [hb] at h2; exact h2
      | bad => rw [hb] at h2; exact h2.elim
theorem step_lst {S : Store} {n i : Nat} {f : Bool} {xs : List D} (h : S[n]? = some (.lst f xs)) : stepIt S (.lst n) i = some xs[i]? := by simp [stepIt, h]
theorem step_tup {S : Store} {i : Nat} {ds : List D} : stepIt S (.tup ds) i = some ds[i]? := rfl
theorem step_rng {S : Store} {i n : Nat} {lo : Int} (h : i < n) : stepIt S (.rng lo n) i = some (some (.int (lo + (i : Nat)))) := by simp [stepIt, h]
theorem step_rng_end {S : Store} {n : Nat} {lo : Int} : stepIt S (.rng lo n) n = some none := by simp [stepIt]
theorem mFor_eq (it : MI) (t : Tg) (b : MS) (e : DEnv) (S : Store) : mFor it t b e S = (it e S).fl e fun x S1 => mLoop x t b 0 e S1 := rfl
theorem miAny_lst {m : ME} {e : DEnv} {S S1 : Store} {n : Nat} {f : Bool} {xs : List D} (h : m e S = .ok (.ref n) S1) (hs : S1[n]? = some (.lst f xs)) : miAny m e S = .ok (.lst n) S1 := by simp [miAny, h, hs]
theorem miAny_tup {m : ME} {e : DEnv} {S S1 : Store} {xs : List D} (h : m e S = .ok (.tup xs) S1) : miAny m e S = .ok (.tup xs) S1 := by simp [miAny, h]
theorem miRng1_eq {m : ME} {e : DEnv} {S S1 : Store} {j : Int} (h : m e S = .ok (.int j) S1) (hj : -(2 ^ 62) ≤ j ∧ j < 2 ^ 62) : miRng1 [m] e S = .ok (.rng 0 j.toNat) S1 := by
  simp only [miRng1, mArgs_cons, mArgs_nil, h, bind_ok, if_pos hj]
/-- a list comprehension, by what holds ahead of each turn: the list so far, the store beside it -/
theorem lc_rule {it : ItD} {t : Tg} {c : MT} {m : ME} {ew : DEnv} {dl n N : Nat} (I : Nat → List D → Store → Prop) (Post : Out D → Prop) (hN : n < N) {S : Store} (h0 : I 0 [] S)
    (hs : ∀ i acc S, i < n → I i acc S → S[dl]? = some (.lst false acc) ∧ acc.length < LIM ∧ ∃ d e2, stepIt S it i = some (some d) ∧ tgSet t d ew = some e2 ∧ ((∃ S1, c e2 S = .ok false S1 ∧ I (i + 1) acc S1) ∨
      ∃ S1 y S2, c e2 S = .ok true S1 ∧ m e2 S1 = .ok y S2 ∧ S2[dl]? = some (.lst false acc) ∧ I (i + 1) (acc ++ [y]) (S2.set dl (.lst false (acc ++ [y])))))
    (hn : ∀ acc S, I n acc S → stepIt S it n = some none ∧ Post (.ok (.ref dl) S)) : Post (lcN it t c m ew dl N 0 S) := by
  have key : ∀ k i N acc S, i + k = n → k < N → I i acc S → Post (lcN it t c m ew dl N i S) := by
    intro k
    induction k with
    | zero =>
      intro i N acc S hi hk h
      have : i = n := by omega
      subst this
      obtain ⟨N, rfl⟩ : ∃ M, N = M + 1 := ⟨N - 1, by omega⟩
      obtain ⟨h1, h2⟩ := hn acc S h
      rw [lcN, h1]
      exact h2
    | succ k ih =>
      intro i N acc S hi hk h
      obtain ⟨N, rfl⟩ : ∃ M, N = M + 1 := ⟨N - 1, by omega⟩
      obtain ⟨ha, hl, d, e2, h1, h2, h3⟩ := hs i acc S (by omega) h
      rw [lcN, h1]
      simp only [h2]
      rcases h3 with ⟨S1, h3, h4⟩ | ⟨S1, y, S2, h3, h4, h5, h6⟩
      · simp only [h3]
        exact ih (i + 1) N acc S1 (by omega) (by omega) h4
      · simp only [h3, h4, h5, if_pos hl]
        exact ih (i + 1) N _ _ (by omega) (by omega) h6
  exact key n 0 N [] S (by omega) hN h0
/-- a list comprehension whose turns leave the store but for the list -/
theorem lc_map {it : ItD} {t : Tg} {c : MT} {m : ME} {ew : DEnv} {N : Nat} {S : Store} (ds : List D) (p : D → Bool) (g : D → D) (hN : ds.length < N) (hlim : ds.length < LIM)
    (hit : ∀ S' i, (∀ k, k < S.length → S'[k]? = S[k]?) → stepIt S' it i = some ds[i]?)
    (ht : ∀ acc i d, i < ds.length → ds[i]? = some d → ∃ e2, tgSet t d ew = some e2 ∧ c e2 (S ++ [.lst false acc]) = .ok (p d) (S ++ [.lst false acc]) ∧ (p d = true → m e2 (S ++ [.lst false acc]) = .ok (g d) (S ++ [.lst false acc]))) :
    lcN it t c m ew S.length N 0 (S ++ [.lst false []]) = .ok (.ref S.length) (S ++ [.lst false ((ds.filter p).map g)]) := by
  have keep : ∀ acc k, k < S.length → (S ++ [.lst false acc])[k]? = S[k]? := fun acc k h => List.getElem?_append_left h
  have atS : ∀ acc : List D, (S ++ [Cell.lst false acc])[S.length]? = some (.lst false acc) := fun acc => by simp
  refine lc_rule (n := ds.length) (fun i acc S' => acc = ((ds.take i).filter p).map g ∧ S' = S ++ [.lst false acc]) (fun o => o = .ok (.ref S.length) (S ++ [.lst false ((ds.filter p).map g)])) hN ⟨by simp, rfl⟩ ?_ ?_
  · rintro i acc S' hi ⟨ha, rfl⟩
    have la : acc.length ≤ i := by
      rw [ha, List.length_map]
      refine Nat.le_trans (List.length_filter_le _ _) ?_
      rw [List.length_take]
      omega
    refine ⟨atS acc, by omega, ds[i], ?_⟩
    obtain ⟨e2, h1, h2, h3⟩ := ht acc i ds[i] hi (List.getElem?_eq_getElem hi)
    refine ⟨e2, by rw [hit _ i (keep acc), List.getElem?_eq_getElem hi], h1, ?_⟩
    have tk : ds.take (i + 1) = ds.take i ++ [ds[i]] := by rw [List.take_add_one, List.getElem?_eq_getElem hi] <;> rfl
    cases hp : p ds[i] with
    | false =>
      rw [hp] at h2
      exact .inl ⟨_, h2, by rw [tk, List.filter_append, List.filter_cons_of_neg (by simp [hp]), List.filter_nil, List.append_nil]; exact ha, rfl⟩
    | true =>
      rw [hp] at h2
      refine .inr ⟨_, g ds[i], _, h2, h3 hp, atS acc, ?_, ?_⟩
      · rw [tk, List.filter_append, List.filter_cons_of_pos hp, List.filter_nil, List.map_append, ← ha] <;> rfl
      · simp
  · rintro acc S' ⟨ha, rfl⟩
    rw [List.take_length] at ha
    refine ⟨by rw [hit _ _ (keep acc)]; simp, by rw [ha]⟩
/-! ### whole numbers in lists -/
theorem allO_map {α β γ : Type} {f : α → Option β} {g : γ → α} {h : γ → β} (e : ∀ x, f (g x) = some (h x)) : ∀ xs : List γ, allO f (xs.map g) = some (xs.map h)
  | [] => rfl
  | x :: xs => by rw [List.map_cons, allO, e x, allO_map e xs] <;> rfl
theorem pyD_ints {S : Store} {n : Nat} {f : Bool} {xs : List Int} (h : S[n]? = some (.lst f (xs.map D.int))) (k : Nat) : pyD S (k + 1) (.ref n) = some (.list (xs.map PyData.int)) := by
  rw [pyD, h]
  simp only [allO_map (f := pyD S k) (g := D.int) (h := PyData.int) (fun x => pyD_int k x)]
  rfl
theorem eqvAll_ints : ∀ xs ys : List Int, PyData.eqvAll (xs.map PyData.int) (ys.map PyData.int) = (xs == ys)
  | [], [] => rfl
  | [], _ :: _ => rfl
  | _ :: _, [] => rfl
  | x :: xs, y :: ys => by
    rw [List.map_cons, List.map_cons, PyData.eqvAll, eqvAll_ints xs ys]
    rfl
theorem dEq_ints {S : Store} {n m : Nat} {f g : Bool} {xs ys : List Int} (h : S[n]? = some (.lst f (xs.map D.int))) (h2 : S[m]? = some (.lst g (ys.map D.int))) : dEq (.ref n) (.ref m) S = .ok (.bl (xs == ys)) S := by
  unfold dEq
  rw [pyD_ints h 7, pyD_ints h2 7]
  simp only [PyData.eqv, eqvAll_ints]
theorem dNe_ints {S : Store} {n m : Nat} {f g : Bool} {xs ys : List Int} (h : S[n]? = some (.lst f (xs.map D.int))) (h2 : S[m]? = some (.lst g (ys.map D.int))) : dNe (.ref n) (.ref m) S = .ok (.bl (!(xs == ys))) S := by
  unfold dNe
  rw [pyD_ints h 7, pyD_ints h2 7]
  simp only [PyData.eqv, eqvAll_ints]
theorem any_ints (i : Int) : ∀ xs : List Int, ((xs.map PyData.int).any fun z => PyData.eqv z (.int i)) = decide (i ∈ xs)
  | [] => by simp
  | x :: xs => by
    rw [List.map_cons, List.any_cons, any_ints i xs, PyData.eqv]
    by_cases e : x = i
    · simp [e]
    · have e' : ¬ i = x := fun z => e z.symm
      simp [e, e']
theorem dIn_ints {S : Store} {n : Nat} {f : Bool} {xs : List Int} {i : Int} (h : S[n]? = some (.lst f (xs.map D.int))) : dIn (.int i) (.ref n) S = .ok (.bl (decide (i ∈ xs))) S := by
  have e : isDictD (.ref n) S = false := by simp [isDictD, h]
  unfold dIn
  rw [e, if_neg (by decide)]
  unfold dInA dInL
  simp only [pyD_ints h 7, pyD_int, any_ints]
theorem cutD_to {α : Type} (xs : List α) (k : Nat) : cutD xs none (some (k : Int)) = xs.take k := by
  unfold cutD
  have e := HT.sIx_nat xs.length xs.length k
  have e0 : HT.sIx xs.length 0 none = 0 := by
    simp [HT.sIx]
  rw [e, e0, List.drop_zero, Nat.sub_zero]
  rcases Nat.le_total k xs.length with l | l
  · rw [Nat.min_eq_left l]
  · rw [Nat.min_eq_right l, List.take_length, List.take_of_length_le l]
theorem dSl_lst {S : Store} {n : Nat} {f : Bool} {xs : List D} {lo hi : Option Int} (h : S[n]? = some (.lst f xs)) : dSl (.ref n) lo hi S = .ok (.ref S.length) (S ++ [.lst false (cutD xs lo hi)]) := by simp [dSl, h]
/-- a comprehension over one list, each item told by itself -/
theorem lc_list {t : Tg} {m : ME} {mi : MI} {vs : List Nat} {e : DEnv} {S S1 : Store} {n : Nat} {f : Bool} {ds : List D} (g : D → D) (hi : mi e S = .ok (.lst n) S1) (hs : S1[n]? = some (.lst f ds)) (hl : ds.length < LIM)
    (ht : ∀ S' d, d ∈ ds → ∃ e2, tgSet t d (wipeD e vs) = some e2 ∧ m e2 S' = .ok (g d) S') : mLc mi t mYes m vs e S = .ok (.ref S1.length) (S1 ++ [.lst false (ds.map g)]) := by
  have hn : n < S1.length := by
    rcases Nat.lt_or_ge n S1.length with l | l
    · exact l
    · rw [List.getElem?_eq_none l] at hs; cases hs
  unfold mLc
  rw [hi, bind_ok]
  have el : itLen S1 (.lst n) = ds.length := by unfold itLen; simp only [hs]
  rw [el]
  have := lc_map (t := t) (c := mYes) (m := m) (ew := wipeD e vs) (it := .lst n) (S := S1) ds (fun _ => true) g (Nat.lt_succ_self _) hl (fun S' i h => by simp only [stepIt, h n hn, hs]) (fun acc i d h1 h2 => by
    obtain ⟨e2, h3, h4⟩ := ht (S1 ++ [.lst false acc]) d (List.mem_of_getElem? h2)
    exact ⟨e2, h3, rfl, fun _ => h4⟩)
  rw [this, List.filter_eq_self.mpr (fun _ _ => rfl)]
/-- a range loop whose turns all pass and keep the store -/
theorem rng_keep {t : Nat} {b : MS} {n : Nat} {e : DEnv} {S : Store} (I : Nat → DEnv → Prop) (hn : (n : Int) < 2 ^ 62) (h0 : I 0 e)
    (hs : ∀ i e, i < n → I i e → ∃ e2, b (e.set t (some (.int (i : Int)))) S = .nx e2 S ∧ I (i + 1) e2) : ∃ e2, mFor (miRng1 [mC (.int (n : Int))]) (.one t) b e S = .nx e2 S ∧ I n e2 := by
  rw [mFor_eq]
  rw [miRng1_eq (mC_eq _) ⟨by omega, hn⟩]
  show ∃ e2, mLoop _ _ _ _ _ _ = _ ∧ _
  rw [Int.toNat_natCast]
  refine loop_rule (n := n) (fun i e S' => S' = S ∧ I i e) (fun fl => ∃ e2, fl = .nx e2 S ∧ I n e2) ⟨rfl, h0⟩ ?_ ?_
  · rintro i e S' hi ⟨rfl, h⟩
    obtain ⟨e2, h1, h2⟩ := hs i e hi h
    refine ⟨.int (i : Int), _, by rw [step_rng hi, Int.zero_add], rfl, ?_⟩
    rw [h1]
    exact ⟨rfl, h2⟩
  · rintro e S' ⟨rfl, h⟩
    exact ⟨step_rng_end, e, rfl, h⟩
theorem app_get {S T : Store} {n : Nat} {c : Cell} (h : S[n]? = some c) : (S ++ T)[n]? = some c := by
  have l : n < S.length := by
    rcases Nat.lt_or_ge n S.length with l | l
    · exact l
    · rw [List.getElem?_eq_none l] at h; cases h
  rw [List.getElem?_append_left l, h]
theorem app_at (S : Store) (c : Cell) : (S ++ [c])[S.length]? = some c := by simp
@[simp] theorem dMul_two (j : Int) (S : Store) : dMul (.int 2) (.int j) S = .ok (.int (2 * j)) S := dMul_l (by decide)
/-- a loop over a list whose turns all pass and only lengthen the store -/
theorem for_grow {t n : Nat} {f : Bool} {xs : List D} {mi : MI} {b : MS} {e : DEnv} {S S1 : Store} (I : DEnv → Prop) (hi : mi e S = .ok (.lst n) S1) (hs : S1[n]? = some (.lst f xs)) (h0 : I e)
    (ht : ∀ e T d, d ∈ xs → I e → ∃ e2 T2, b (e.set t (some d)) (S1 ++ T) = .nx e2 (S1 ++ T2) ∧ I e2) : ∃ e2 T, mFor mi (.one t) b e S = .nx e2 (S1 ++ T) ∧ I e2 := by
  rw [mFor_eq, hi, fl_ok]
  refine loop_rule (n := xs.length) (fun i e S' => (∃ T, S' = S1 ++ T) ∧ I e) (fun fl => ∃ e2 T, fl = .nx e2 (S1 ++ T) ∧ I e2) ⟨⟨[], (List.append_nil _).symm⟩, h0⟩ ?_ ?_
  · rintro i e S' hi ⟨⟨T, rfl⟩, h⟩
    obtain ⟨e2, T2, h1, h2⟩ := ht e T xs[i] (List.getElem_mem hi) h
    refine ⟨xs[i], _, by rw [step_lst (app_get hs), List.getElem?_eq_getElem hi], rfl, ?_⟩
    rw [h1]
    exact ⟨⟨T2, rfl⟩, h2⟩
  · rintro e S' ⟨⟨T, rfl⟩, h⟩
    exact ⟨by rw [step_lst (app_get hs)]; simp, e, T, rfl, h⟩
/-- a range loop whose turns all pass and only lengthen the store -/
theorem rng_grow {t : Nat} {b : MS} {n : Nat} {mi : MI} {e : DEnv} {S S1 : Store} (I : Nat → DEnv → Prop) (hi : mi e S = .ok (.rng 0 n) S1) (h0 : I 0 e)
    (ht : ∀ i e T, i < n → I i e → ∃ e2 T2, b (e.set t (some (.int (i : Int)))) (S1 ++ T) = .nx e2 (S1 ++ T2) ∧ I (i + 1) e2) : ∃ e2 T, mFor mi (.one t) b e S = .nx e2 (S1 ++ T) ∧ I n e2 := by
  rw [mFor_eq, hi, fl_ok]
  refine loop_rule (n := n) (fun i e S' => (∃ T, S' = S1 ++ T) ∧ I i e) (fun fl => ∃ e2 T, fl = .nx e2 (S1 ++ T) ∧ I n e2) ⟨⟨[], (List.append_nil _).symm⟩, h0⟩ ?_ ?_
  · rintro i e S' hi ⟨⟨T, rfl⟩, h⟩
    obtain ⟨e2, T2, h1, h2⟩ := ht i e T hi h
    refine ⟨.int (i : Int), _, by rw [step_rng hi, Int.zero_add], rfl, ?_⟩
    rw [h1]
    exact ⟨⟨T2, rfl⟩, h2⟩
  · rintro e S' ⟨⟨T, rfl⟩, h⟩
    exact ⟨step_rng_end, e, T, rfl, h⟩
/-- a comprehension over a range, each number told by itself -/
theorem lc_rng {t : Tg} {c : MT} {m : ME} {vs : List Nat} {mi : MI} {e : DEnv} {S S1 : Store} {n : Nat} (p : Nat → Bool) (g : Nat → D) (hn : n < LIM) (hi : mi e S = .ok (.rng 0 n) S1)
    (ht : ∀ S' i, i < n → (∀ k, k < S1.length → S'[k]? = S1[k]?) → ∃ e2, tgSet t (.int (i : Int)) (wipeD e vs) = some e2 ∧ c e2 S' = .ok (p i) S' ∧ (p i = true → m e2 S' = .ok (g i) S')) :
    mLc mi t c m vs e S = .ok (.ref S1.length) (S1 ++ [.lst false (((List.range n).filter p).map g)]) := by
  unfold mLc
  rw [hi, bind_ok]
  have el : itLen S1 (.rng 0 n) = n := rfl
  have ld : ((List.range n).map fun i : Nat => D.int (i : Int)).length = n := by rw [List.length_map, List.length_range]
  have keep : ∀ acc k, k < S1.length → (S1 ++ [Cell.lst false acc])[k]? = S1[k]? := fun acc k h => List.getElem?_append_left h
  rw [el]
  have h := lc_map (t := t) (c := c) (m := m) (ew := wipeD e vs) (it := .rng 0 n) (S := S1) (N := n + 1) ((List.range n).map fun i : Nat => D.int (i : Int)) (fun d => match d with | .int i => p i.toNat | _ => false) (fun d => match d with | .int i => g i.toNat | d => d) (by rw [ld]; exact Nat.lt_succ_self _) (by rw [ld]; exact hn)
    (fun S' i _ => by
      rw [List.getElem?_map]
      rcases Nat.lt_or_ge i n with l | l
      · rw [step_rng l, List.getElem?_range l, Int.zero_add]; rfl
      · have : (List.range n)[i]? = none := List.getElem?_eq_none (by rw [List.length_range]; exact l)
        rw [this]
        have l' : ¬ i < n := Nat.not_lt.mpr l
        simp [stepIt, l'])
    (fun acc i d h1 h2 => by
      rw [ld] at h1
      rw [List.getElem?_map, List.getElem?_range h1] at h2
      cases h2
      obtain ⟨e2, h3, h4, h5⟩ := ht (S1 ++ [.lst false acc]) i h1 (keep acc)
      exact ⟨e2, h3, h4, h5⟩)
  rw [h, List.filter_map, List.map_map]
  rfl
@[simp] theorem mPart_none (e : DEnv) (S : Store) : mPart none e S = .ok none S := rfl
@[simp] theorem mPart_some (m : ME) (e : DEnv) (S : Store) : mPart (some m) e S = (m e S).bind fun d S1 => match d with
  | .int i => .ok (some i) S1
  | _ => .bad := rfl
@[simp] theorem mSl_eq (a : ME) (lo hi : Option ME) (e : DEnv) (S : Store) : mSl a lo hi e S = (a e S).bind fun x S1 => (mPart lo e S1).bind fun l S2 => (mPart hi e S2).bind fun h S3 => dSl x l h S3 := rfl
theorem cutD_map {α β : Type} (f : α → β) (xs : List α) (lo hi : Option Int) : cutD (xs.map f) lo hi = (cutD xs lo hi).map f := by
  unfold cutD
  rw [List.length_map, List.map_take, List.map_drop]
theorem cutD_mem {α : Type} {xs : List α} {lo hi : Option Int} {x : α} (h : x ∈ cutD xs lo hi) : x ∈ xs := List.mem_of_mem_drop (List.mem_of_mem_take h)
theorem cutD_len {α : Type} (xs : List α) (lo hi : Option Int) : (cutD xs lo hi).length ≤ xs.length := by
  unfold cutD
  rw [List.length_take, List.length_drop]
  omega
theorem dAdd_lst {S : Store} {m n : Nat} {xs ys : List D} (h : S[m]? = some (.lst false xs)) (h2 : S[n]? = some (.lst false ys)) (l : xs.length + ys.length ≤ LIM) : dAdd (.ref m) (.ref n) S = .ok (.ref S.length) (S ++ [.lst false (xs ++ ys)]) := by
  simp [dAdd, h, h2, l]
theorem allO_bls : ∀ bs : List Bool, allO blD (bs.map D.bl) = some bs
  | [] => rfl
  | b :: bs => by rw [List.map_cons, allO, allO_bls bs] <;> rfl
theorem dAll_lst {S : Store} {n : Nat} {f : Bool} {bs : List Bool} (h : S[n]? = some (.lst f (bs.map D.bl))) : dAll [.ref n] S = .ok (.bl (bs.all id)) S := by
  simp [dAll, h, allO_bls]
/-- a comprehension over one list whose turns lengthen the store -/
theorem lc_grow {t : Tg} {m : ME} {mi : MI} {vs : List Nat} {e : DEnv} {S S1 : Store} {n : Nat} {f : Bool} {ds : List D} (g : D → D) (hi : mi e S = .ok (.lst n) S1) (hs : S1[n]? = some (.lst f ds)) (hl : ds.length < LIM)
    (ht : ∀ (S' : Store) (d : D), d ∈ ds → (∀ (k : Nat) (c : Cell), S1[k]? = some c → S'[k]? = some c) → ∃ e2 T, tgSet t d (wipeD e vs) = some e2 ∧ m e2 S' = .ok (g d) (S' ++ T)) : ∃ T, mLc mi t mYes m vs e S = .ok (.ref S1.length) (S1 ++ ([.lst false (ds.map g)] ++ T)) := by
  have hn : n < S1.length := by
    rcases Nat.lt_or_ge n S1.length with l | l
    · exact l
    · rw [List.getElem?_eq_none l] at hs; cases hs
  unfold mLc
  rw [hi, bind_ok]
  have el : itLen S1 (.lst n) = ds.length := by unfold itLen; simp only [hs]
  rw [el]
  have keep : ∀ (R : Store) k c, S1[k]? = some c → (S1 ++ R)[k]? = some c := fun R k c h => app_get h
  have mid : ∀ (c : Cell) (T : Store), (S1 ++ ([c] ++ T))[S1.length]? = some c := fun c T => by
    rw [List.getElem?_append_right (Nat.le_refl _), Nat.sub_self]; rfl
  refine lc_rule (n := ds.length) (fun i acc S' => acc = (ds.take i).map g ∧ ∃ T, S' = S1 ++ ([.lst false acc] ++ T)) (fun o => ∃ T, o = .ok (.ref S1.length) (S1 ++ ([.lst false (ds.map g)] ++ T))) (Nat.lt_succ_self _) ⟨by simp, [], rfl⟩ ?_ ?_
  · rintro i acc S' hi ⟨ha, T, rfl⟩
    have la : acc.length ≤ i := by
      rw [ha, List.length_map, List.length_take]
      omega
    obtain ⟨e2, T2, h1, h2⟩ := ht (S1 ++ ([.lst false acc] ++ T)) ds[i] (List.getElem_mem hi) (keep _)
    refine ⟨mid _ _, by omega, ds[i], e2, by simp only [stepIt, keep _ _ _ hs, List.getElem?_eq_getElem hi], h1, .inr ⟨_, g ds[i], _, rfl, h2, app_get (mid _ _), ?_, T ++ T2, ?_⟩⟩
    · rw [List.take_add_one, List.getElem?_eq_getElem hi, List.map_append, ← ha]
      rfl
    · rw [List.append_assoc, List.append_assoc, List.set_append_right _ _ (Nat.le_refl _), Nat.sub_self]
      rfl
  · rintro acc S' ⟨ha, T, rfl⟩
    rw [List.take_length] at ha
    refine ⟨by simp only [stepIt, keep _ _ _ hs]; simp, T, by rw [ha]⟩
/-! ### objects and dicts -/
def callM (tab : MTab) (m : Str) (x : D) (S : Store) : Option (List D → Store → Out D) := match x with
  | .ref n => match S[n]? with
    | some (.obj c fs) => match tab.lookup c, fs.lookup m with
      | some f, none => some f
      | _, _ => none
    | _ => none
  | _ => none
theorem mMeth_eq (tab : MTab) (m : Str) (dds : List D) (o : ME) (ms : List ME) (e : DEnv) (S : Store) : mMeth tab m dds o ms e S = (o e S).bind fun x S1 => match callM tab m x S1 with
  | some f => (mArgs ms e S1).bind fun ds S2 => f (x :: (ds ++ dds)) S2
  | none => .bad := by
  unfold mMeth
  congr 1
  funext x S1
  unfold callM
  cases x with
  | ref n =>
    simp only
    cases h : S1[n]? with
    | none => rfl
    | some c =>
      cases c with
      | obj c fs =>
        simp only
        cases h1 : tab.lookup c with
        | none => rfl
        | some f => cases h2 : fs.lookup m <;> rfl
      | _ => rfl
  | _ => rfl
theorem callM_obj {tab : MTab} {m c : Str} {n : Nat} {S : Store} {fs : List (Str × D)} {f : List D → Store → Out D} (h : S[n]? = some (.obj c fs)) (h1 : tab.lookup c = some f) (h2 : fs.lookup m = none) : callM tab m (.ref n) S = some f := by
  unfold callM
  simp only [h, h1, h2]
theorem mGet2_eq (mo mk mz : ME) (e : DEnv) (S : Store) : mGet2 mo mk mz e S = (mo e S).bind fun x S1 => if isDictD x S1 = true then (mk e S1).bind fun y S2 => (mz e S2).bind fun z S3 => match dictGet x y S3 with
    | some r => .ok (r.getD z) S3
    | none => .bad
  else .bad := rfl
theorem mSetIx_eq (mo mi mv : ME) (e : DEnv) (S : Store) : mSetIx mo mi mv e S = (mv e S).fl e fun v S1 => (mo e S1).fl e fun x S2 => (mi e S2).fl e fun y S3 => match setIxD x y v S3 with
  | some S4 => .nx e S4
  | none => .bad := rfl
theorem isDict_dk {n : Nat} {S : Store} {f : Bool} {V : List (Key × D)} (h : S[n]? = some (.dk f V)) : isDictD (.ref n) S = true := by simp [isDictD, h]
theorem isDict_dt {n : Nat} {S : Store} {f : Bool} {V : List (List Key × D)} (h : S[n]? = some (.dt f V)) : isDictD (.ref n) S = true := by simp [isDictD, h]
theorem dGet_dk {n : Nat} {S : Store} {f : Bool} {V : List (Key × D)} (h : S[n]? = some (.dk f V)) (k : Str) : dictGet (.ref n) (.str k) S = some (lookD V (.inr k)) := by simp [dictGet, h, keyK]
theorem dGet_dt {n : Nat} {S : Store} {f : Bool} {V : List (List Key × D)} (h : S[n]? = some (.dt f V)) {y : D} {k : List Key} (hk : keyT y = some k) : dictGet (.ref n) y S = some (lookD V k) := by simp [dictGet, h, hk]
theorem dSet_dk {n : Nat} {S : Store} {V : List (Key × D)} (h : S[n]? = some (.dk false V)) (k : Str) (v : D) (l : V.length < LIM) : setIxD (.ref n) (.str k) v S = some (S.set n (.dk false (putD V (.inr k) v))) := by
  simp [setIxD, isLst, h, dictPut, keyK, l]
theorem dSet_dt {n : Nat} {S : Store} {V : List (List Key × D)} (h : S[n]? = some (.dt false V)) {y : D} {k : List Key} (hk : keyT y = some k) (v : D) (l : V.length < LIM) : setIxD (.ref n) y v S = some (S.set n (.dt false (putD V k v))) := by
  simp [setIxD, isLst, h, dictPut, hk, l]
theorem dIxA_dt {n : Nat} {S : Store} {f : Bool} {V : List (List Key × D)} (h : S[n]? = some (.dt f V)) {y d : D} {k : List Key} (hk : keyT y = some k) (hl : lookD V k = some d) : dIxA (.ref n) y S = .ok d S := by
  unfold dIxA
  rw [isDict_dt h, if_pos rfl, dIxD, dGet_dt h hk, hl]
theorem dNotIn_dt {n : Nat} {S : Store} {f : Bool} {V : List (List Key × D)} (h : S[n]? = some (.dt f V)) {y : D} {k : List Key} (hk : keyT y = some k) : dNotIn y (.ref n) S = .ok (.bl (!(lookD V k).isSome)) S := by
  unfold dNotIn
  rw [isDict_dt h, if_pos rfl, dNotInD, dGet_dt h hk]
theorem dFld_obj {n : Nat} {S : Store} {c f : Str} {names : List Str} {fs : List (Str × D)} {d : D} (h : S[n]? = some (.obj c fs)) (hc : c ∈ names) (hf : fs.lookup f = some d) : dFldC names f (.ref n) S = .ok d S := by
  simp [dFldC, h, hc, hf]
theorem set_same {α : Type} {S : List α} {n : Nat} {c : α} (h : S[n]? = some c) : S.set n c = S := by
  refine List.ext_getElem? fun i => ?_
  by_cases e : n = i
  · subst e
    have l : n < S.length := by
      rcases Nat.lt_or_ge n S.length with l | l
      · exact l
      · rw [List.getElem?_eq_none l] at h; cases h
    rw [List.getElem?_set_self l, h]
  · rw [List.getElem?_set_ne e]
theorem set_get {α : Type} {S : List α} {n : Nat} {c : α} (d : α) (h : S[n]? = some c) : (S.set n d)[n]? = some d := by
  have l : n < S.length := by
    rcases Nat.lt_or_ge n S.length with l | l
    · exact l
    · rw [List.getElem?_eq_none l] at h; cases h
  rw [List.getElem?_set_self l]
section
variable {κ : Type} [DecidableEq κ]
theorem look_put {V : List (κ × D)} {k : κ} {v : D} : lookD (putD V k v) k = some v := by
  unfold putD
  by_cases h : (V.any fun kv => decide (kv.1 = k)) = true
  · rw [if_pos h]
    unfold lookD
    induction V with
    | nil => cases h
    | cons p V ih =>
      by_cases e : p.1 = k
      · simp [e]
      · have h' : (V.any fun kv => decide (kv.1 = k)) = true := by simpa [e] using h
        have := ih h'
        simp only [List.map_cons, if_neg e, List.find?_cons, decide_eq_false e]
        exact this
  · rw [if_neg h]
    unfold lookD
    have hn : V.find? (fun kv => decide (kv.1 = k)) = none := by
      rw [List.find?_eq_none]
      intro x hx hk
      exact h (List.any_eq_true.mpr ⟨x, hx, hk⟩)
    rw [List.find?_append, hn]
    simp
theorem put_len {V : List (κ × D)} {k : κ} {v : D} : (putD V k v).length ≤ V.length + 1 := by
  unfold putD
  split
  · rw [List.length_map]; omega
  · rw [List.length_append]; simp
theorem put_mem {V : List (κ × D)} {k : κ} {v : D} {p : κ × D} (h : p ∈ putD V k v) : p ∈ V ∨ p = (k, v) := by
  unfold putD at h
  split at h
  · obtain ⟨q, hq, e⟩ := List.mem_map.mp h
    by_cases z : q.1 = k
    · rw [if_pos z] at e
      exact .inr (by rw [← e, z])
    · rw [if_neg z] at e
      exact .inl (e ▸ hq)
  · rcases List.mem_append.mp h with h | h
    · exact .inl h
    · exact .inr (List.mem_singleton.mp h)
theorem look_none {V : List (κ × D)} {k : κ} (h : ∀ p ∈ V, p.1 ≠ k) : lookD V k = none := by
  unfold lookD
  have hn : V.find? (fun kv => decide (kv.1 = k)) = none := by
    rw [List.find?_eq_none]
    intro x hx hk
    exact h x hx (by simpa using hk)
  rw [hn]
  rfl
theorem look_mem {V : List (κ × D)} {k : κ} {d : D} (h : lookD V k = some d) : (k, d) ∈ V := by
  unfold lookD at h
  cases e : V.find? (fun kv => decide (kv.1 = k)) with
  | none => rw [e] at h; cases h
  | some p =>
    rw [e] at h
    have m := List.mem_of_find?_eq_some e
    have q := List.find?_some e
    simp only [decide_eq_true_eq] at q
    simp only [Option.map_some, Option.some.injEq] at h
    rw [← q, ← h]
    exact m
end
/-- one statement that passes -/
theorem seq_nx {a b : MS} {e e1 : DEnv} {S S1 : Store} (h : a e S = .nx e1 S1) : mSeq a b e S = b e1 S1 := by rw [mSeq_eq, h]
theorem seq_rt {a b : MS} {e : DEnv} {S S1 : Store} {d : D} (h : a e S = .rt d S1) : mSeq a b e S = .rt d S1 := by rw [mSeq_eq, h]
end M

namespace Gn
open PySem L2 M
def top (i : Nat) : Stmt := PySem.Challenge.pw_chairvote_k11_orders.main.body.getD i (.Pass ⟨0, 0, 0, 0⟩)
abbrev s_C_Shelf_init : Stmt := inClass (top 2) 0
abbrev s_law_name : Stmt := top 7
abbrev s_law_stream : Stmt := top 6
abbrev s_law_answer : Stmt := top 9
abbrev s_C_Shelf_value_of : Stmt := inClass (top 2) 1
abbrev s_C_Shelf_obey : Stmt := inClass (top 2) 2
abbrev s_C_Shelf_do : Stmt := inClass (top 2) 3
abbrev s_law_number : Stmt := top 8
abbrev s_law_cell_at : Stmt := top 4
abbrev s_law_whole : Stmt := top 5
abbrev s_law : Stmt := top 10
noncomputable def b_C_Shelf_init : MS := (mSeq (mSetF [("Shelf" : Str)] "by_name" (mVar 0) mDkNew)
    (mSetF [("Shelf" : Str)] "by_ask" (mVar 0) mDtNew))
noncomputable def f_C_Shelf_init : List D → Store → Out D := runDef 1 1 b_C_Shelf_init
noncomputable def b_law_name : MS := (mSeq (mSet 1 (mC (.str ("abcdefghijklmnopqrstuvwxyz" : Str))))
    (mSeq (mSet 2 (mBin dAdd (mC (.int 1)) (mBin dMod (mVar 0) (mC (.int 8)))))
    (mSeq (mSet 3 (mBin dMod (mBin dFdiv (mVar 0) (mC (.int 8))) (mVar 2)))
    (mRet (mBin dAdd (mBin dAdd (mBin dMulA (mC (.str ("e" : Str))) (mVar 3)) (mBin dIxA (mVar 1) (mBin dMod (mBin dFdiv (mVar 0) (mC (.int 64))) (mC (.int 26))))) (mBin dMulA (mC (.str ("e" : Str))) (mBin dSub (mBin dSub (mVar 2) (mVar 3)) (mC (.int 1)))))))))
noncomputable def f_law_name : List D → Store → Out D := runDef 1 4 b_law_name
noncomputable def b_law_stream : MS := (mSeq (mSet 2 (mLst []))
    (mSeq (mSet 3 (mBin dMod (mBin dAdd (mBin dMulA (mVar 0) (mC (.int 48271))) (mC (.int 7919))) (mC (.int 2147483647))))
    (mSeq (mFor (miRng1 [(mVar 1)]) (.one 4) (mSeq (mSet 3 (mBin dMod (mBin dAdd (mBin dAdd (mBin dMulA (mVar 3) (mBin dAdd (mBin dFdiv (mVar 3) (mC (.int 1009))) (mC (.int 69621)))) (mVar 4)) (mC (.int 1))) (mC (.int 2147483647))))
    (mDrop (mBM isLst dAppend (mVar 2) [(mVar 3)]))))
    (mRet (mVar 2)))))
noncomputable def f_law_stream : List D → Store → Out D := runDef 2 5 b_law_stream
noncomputable def b_law_answer : MS := (mSeq (mSet 2 (mGet2 (mVar 0) (mBin dIxA (mVar 1) (mC (.int 1))) (mC (.int 0))))
    (mSeq (mIfS (mTest (mBin dEq (mBin dIxA (mVar 1) (mC (.int 0))) (mC (.str ("put" : Str))))) (mSeq (mSetIx (mVar 0) (mBin dIxA (mVar 1) (mC (.int 1))) (mBin dIxA (mVar 1) (mC (.int 2))))
    (mRet (mVar 2))) mNil)
    (mSeq (mIfS (mTest (mBin dEq (mBin dIxA (mVar 1) (mC (.int 0))) (mC (.str ("add" : Str))))) (mSeq (mSetIx (mVar 0) (mBin dIxA (mVar 1) (mC (.int 1))) (mBin dAdd (mVar 2) (mBin dIxA (mVar 1) (mC (.int 2)))))
    (mRet (mBin dAdd (mVar 2) (mBin dIxA (mVar 1) (mC (.int 2)))))) mNil)
    (mSeq (mIfS (mTest (mBin dEq (mBin dIxA (mVar 1) (mC (.int 2))) (mVar 2))) (mSeq (mSetIx (mVar 0) (mBin dIxA (mVar 1) (mC (.int 1))) (mBin dIxA (mVar 1) (mC (.int 3))))
    (mRet (mC (.int 1)))) mNil)
    (mRet (mC (.int 0)))))))
noncomputable def f_law_answer : List D → Store → Out D := runDef 2 3 b_law_answer
noncomputable def b_C_Shelf_value_of : MS := (mRet (mGet2 (mUn (dFldC [("Shelf" : Str)] "by_name") (mVar 0)) (mVar 1) (mC (.int 0))))
noncomputable def f_C_Shelf_value_of : List D → Store → Out D := runDef 2 2 b_C_Shelf_value_of
noncomputable abbrev tab_value_of_1 : MTab := [(("Shelf" : Str), f_C_Shelf_value_of)]
noncomputable def b_C_Shelf_obey : MS := (mSeq (mSet 2 (mBin dIxA (mVar 1) (mC (.int 1))))
    (mSeq (mSet 3 (mMeth tab_value_of_1 "value_of" [] (mVar 0) [(mVar 2)]))
    (mSeq (mIfS (mTest (mBin dEq (mBin dIxA (mVar 1) (mC (.int 0))) (mC (.str ("put" : Str))))) (mSeq (mSetIx (mUn (dFldC [("Shelf" : Str)] "by_name") (mVar 0)) (mVar 2) (mBin dIxA (mVar 1) (mC (.int 2))))
    (mRet (mVar 3))) mNil)
    (mSeq (mIfS (mTest (mBin dEq (mBin dIxA (mVar 1) (mC (.int 0))) (mC (.str ("add" : Str))))) (mSeq (mSetIx (mUn (dFldC [("Shelf" : Str)] "by_name") (mVar 0)) (mVar 2) (mBin dAdd (mVar 3) (mBin dIxA (mVar 1) (mC (.int 2)))))
    (mRet (mBin dAdd (mVar 3) (mBin dIxA (mVar 1) (mC (.int 2)))))) mNil)
    (mSeq (mIfS (mTest (mBin dNe (mVar 3) (mBin dIxA (mVar 1) (mC (.int 2))))) (mRet (mC (.int 0))) mNil)
    (mSeq (mSetIx (mUn (dFldC [("Shelf" : Str)] "by_name") (mVar 0)) (mVar 2) (mBin dIxA (mVar 1) (mC (.int 3))))
    (mRet (mC (.int 1)))))))))
noncomputable def f_C_Shelf_obey : List D → Store → Out D := runDef 2 4 b_C_Shelf_obey
noncomputable abbrev tab_obey_1 : MTab := [(("Shelf" : Str), f_C_Shelf_obey)]
noncomputable def b_C_Shelf_do : MS := (mSeq (mIfS (mTest (mBin dNotIn (mTup [(mVar 1), (mVar 2)]) (mUn (dFldC [("Shelf" : Str)] "by_ask") (mVar 0)))) (mSetIx (mUn (dFldC [("Shelf" : Str)] "by_ask") (mVar 0)) (mTup [(mVar 1), (mVar 2)]) (mMeth tab_obey_1 "obey" [] (mVar 0) [(mVar 3)])) mNil)
    (mRet (mBin dIxA (mUn (dFldC [("Shelf" : Str)] "by_ask") (mVar 0)) (mTup [(mVar 1), (mVar 2)]))))
noncomputable def f_C_Shelf_do : List D → Store → Out D := runDef 4 4 b_C_Shelf_do
noncomputable def b_law_number : MS := (mRet (mBin dIxA (mLst [(mBin dMod (mVar 0) (mC (.int 10))), (mBin dMod (mVar 1) (mBin dPow (mC (.int 10)) (mC (.int 40)))), (mBin dSub (mC (.int 0)) (mBin dMod (mVar 1) (mBin dPow (mC (.int 10)) (mC (.int 40))))), (mBin dSub (mC (.int 0)) (mBin dMod (mVar 0) (mC (.int 3))))]) (mBin dMod (mBin dFdiv (mVar 0) (mC (.int 10))) (mC (.int 4)))))
noncomputable def f_law_number : List D → Store → Out D := runDef 2 2 b_law_number
noncomputable def b_law_cell_at : MS := (mSeq (mIfS (mTest (mBin dLtI (mVar 1) (mCall dLen [(mVar 0)]))) (mRet (mBin dIxA (mVar 0) (mVar 1))) mNil)
    (mRet (mC (.int 0))))
noncomputable def f_law_cell_at : List D → Store → Out D := runDef 2 2 b_law_cell_at
noncomputable def b_law_whole : MS := (mRet (mAnd (mUn (dIsInst "int") (mVar 0)) (mNot (mUn (dIsInst "bool") (mVar 0)))))
noncomputable def f_law_whole : List D → Store → Out D := runDef 1 1 b_law_whole
noncomputable abbrev tab_do_3 : MTab := [(("Shelf" : Str), f_C_Shelf_do)]
noncomputable def b_law : MS := (mSeq (mSet 1 (mLc (miAny (mCallD f_law_stream [] [(mCallD f_law_cell_at [] [(mVar 0), (mC (.int 0))]), (mC (.int 4))])) (.one 2) mYes (mCallD f_law_name [] [(mVar 2)]) [2]))
    (mSeq (mSet 3 mDkNew)
    (mSeq (mSet 4 (mMake "Shelf" f_C_Shelf_init [] []))
    (mSeq (mFor (miRng1 [(mCall dMin2 [(mCall dLen [(mVar 0)]), (mC (.int 60))])]) (.one 5) (mSeq (mSet 6 (mCallD f_law_stream [] [(mBin dIxA (mVar 0) (mVar 5)), (mC (.int 6))]))
    (mSeq (mSet 7 (mBin dIxA (mVar 1) (mBin dMod (mBin dIxA (mVar 6) (mC (.int 0))) (mC (.int 4)))))
    (mSeq (mSet 8 (mTup [(mBin dIxA (mLst [(mC (.str ("put" : Str))), (mC (.str ("add" : Str)))]) (mBin dMod (mBin dIxA (mVar 6) (mC (.int 1))) (mC (.int 2)))), (mVar 7), (mCallD f_law_number [] [(mBin dIxA (mVar 6) (mC (.int 2))), (mBin dIxA (mVar 0) (mVar 5))])]))
    (mSeq (mIfS (mTest (mBin dEq (mBin dMod (mBin dIxA (mVar 6) (mC (.int 1))) (mC (.int 3))) (mC (.int 0)))) (mSeq (mSet 9 (mBin dIxA (mLst [(mGet2 (mVar 3) (mVar 7) (mC (.int 0))), (mCallD f_law_number [] [(mBin dIxA (mVar 6) (mC (.int 3))), (mBin dIxA (mVar 0) (mVar 5))])]) (mBin dMod (mBin dIxA (mVar 6) (mC (.int 3))) (mC (.int 2)))))
    (mSet 8 (mTup [(mC (.str ("swap" : Str))), (mVar 7), (mVar 9), (mCallD f_law_number [] [(mBin dIxA (mVar 6) (mC (.int 2))), (mBin dIxA (mVar 0) (mVar 5))])]))) mNil)
    (mSeq (mSet 10 (mCallD f_law_answer [] [(mVar 3), (mVar 8)]))
    (mSeq (mSet 11 (mMeth tab_do_3 "do" [] (mVar 4) [(mBin dSub (mBin dMod (mBin dIxA (mVar 6) (mC (.int 4))) (mC (.int 4))) (mC (.int 1))), (mBin dSub (mVar 5) (mC (.int 3))), (mVar 8)]))
    (mSeq (mIfS (mOrT (mNotT (mTruth (mCallD f_law_whole [] [(mVar 11)]))) (mTest (mBin dNe (mVar 11) (mVar 10)))) (mRet (mC (.bl false))) mNil)
    (mFor (miAny (mLst [(mVar 7), (mBin dIxA (mVar 1) (mBin dMod (mBin dIxA (mVar 6) (mC (.int 5))) (mC (.int 4))))])) (.one 12) (mSeq (mSet 13 (mMeth tab_value_of_1 "value_of" [] (mVar 4) [(mVar 12)]))
    (mIfS (mOrT (mNotT (mTruth (mCallD f_law_whole [] [(mVar 13)]))) (mTest (mBin dNe (mVar 13) (mGet2 (mVar 3) (mVar 12) (mC (.int 0)))))) (mRet (mC (.bl false))) mNil)))))))))))
    (mSeq (mFor (miAny (mBin dAdd (mVar 1) (mLst [(mC (.str ("e" : Str))), (mC (.str ("eeeeeeee" : Str)))]))) (.one 12) (mSeq (mSet 13 (mMeth tab_value_of_1 "value_of" [] (mVar 4) [(mVar 12)]))
    (mIfS (mOrT (mNotT (mTruth (mCallD f_law_whole [] [(mVar 13)]))) (mTest (mBin dNe (mVar 13) (mGet2 (mVar 3) (mVar 12) (mC (.int 0)))))) (mRet (mC (.bl false))) mNil)))
    (mRet (mC (.bl true))))))))
noncomputable def f_law : List D → Store → Out D := runDef 1 14 b_law
structure Txt (K : PySem.W.Frag) (mg : Str → Option Value) (CA : Str → Addr) : Prop where
  n_bool : mg "bool" = none
  n_int : mg "int" = none
  n_isinstance : mg "isinstance" = none
  n_len : mg "len" = none
  n_min : mg "min" = none
  n_range : mg "range" = none
  f_by_ask : ∀ c ∈ [("Shelf" : Str)], Cls K (CA c) ∧ NoAttr K (CA c) "by_ask"
  f_by_name : ∀ c ∈ [("Shelf" : Str)], Cls K (CA c) ∧ NoAttr K (CA c) "by_name"
section
variable {P : Program} {w : World} {K : PySem.W.Frag} {mg : Str → Option Value} {base : Heap} {CA : Str → Addr}
theorem sc_C_Shelf_init : FnScope ["self"] ["self"] (defScope s_C_Shelf_init) := ⟨rfl, rfl, rfl, by decide +kernel, rfl, by decide +kernel, by decide +kernel⟩
set_option maxHeartbeats 4000000 in
theorem ok_C_Shelf_init {f : Addr} {fd : FuncData} {dvs : List V} (F : FunS K "__init__" "Shelf.__init__" s_C_Shelf_init dvs f fd) (T : Txt K mg CA)  : FnOk P w K mg base (L2.CX P w) 1 f fd ["self"] (spM K CA f_C_Shelf_init) :=
  def_do (b := b_C_Shelf_init) F sc_C_Shelf_init rfl rfl fun cdv A outer s H E hr => by
    unfold b_C_Shelf_init
    exact (cs_cons (cs_fld (names := [("Shelf" : Str)]) (cv 0) ce_dkNew T.f_by_name)
      (cs_one (cs_fld (names := [("Shelf" : Str)]) (cv 0) ce_dtNew T.f_by_ask)))
theorem sc_law_name : FnScope ["_law_number_here", "_law_some", "_law_size", "_law_at"] ["_law_number_here"] (defScope s_law_name) := ⟨rfl, rfl, rfl, by decide +kernel, rfl, by decide +kernel, by decide +kernel⟩
set_option maxHeartbeats 4000000 in
theorem ok_law_name {f : Addr} {fd : FuncData} {dvs : List V} (F : FunS K "_law_name" "_law_name" s_law_name dvs f fd) (T : Txt K mg CA)  : FnOk P w K mg base (L2.CX P w) 1 f fd ["_law_number_here"] (spM K CA f_law_name) :=
  def_do (b := b_law_name) F sc_law_name rfl rfl fun cdv A outer s H E hr => by
    unfold b_law_name
    exact (cs_cons (cs_set (i := 1) sc_law_name.nd ce_str)
      (cs_cons (cs_set (i := 2) sc_law_name.nd (ce_add ce_int (ce_mod (cv 0) ce_int)))
      (cs_cons (cs_set (i := 3) sc_law_name.nd (ce_mod (ce_fdiv (cv 0) ce_int) (cv 2)))
      (cs_one (cs_ret (ce_add (ce_add (ce_mulA ce_str (cv 3)) (ce_ixA (hu_of hr) (cv 1) (ce_mod (ce_fdiv (cv 0) ce_int) ce_int))) (ce_mulA ce_str (ce_sub (ce_sub (cv 2) (cv 3)) ce_int))))))))
theorem sc_law_stream : FnScope ["_law_cell", "_law_size", "_law_found", "_law_number_here", "_law_k"] ["_law_cell", "_law_size"] (defScope s_law_stream) := ⟨rfl, rfl, rfl, by decide +kernel, rfl, by decide +kernel, by decide +kernel⟩
set_option maxHeartbeats 4000000 in
theorem ok_law_stream {f : Addr} {fd : FuncData} {dvs : List V} (F : FunS K "_law_stream" "_law_stream" s_law_stream dvs f fd) (T : Txt K mg CA)  : FnOk P w K mg base (L2.CX P w) 1 f fd ["_law_cell", "_law_size"] (spM K CA f_law_stream) :=
  def_do (b := b_law_stream) F sc_law_stream rfl rfl fun cdv A outer s H E hr => by
    unfold b_law_stream
    exact (cs_cons (cs_set (i := 2) sc_law_stream.nd (ce_lst ca_nil))
      (cs_cons (cs_set (i := 3) sc_law_stream.nd (ce_mod (ce_add (ce_mulA (cv 0) ce_int) ce_int) ce_int))
      (cs_cons (cs_for (passes_of rfl) rfl (ci_rng1 T.n_range (ca_cons (cv 1) ca_nil)) (cg_name (i := 4) sc_law_stream.nd) (cs_cons (cs_set (i := 3) sc_law_stream.nd (ce_mod (ce_add (ce_add (ce_mulA (cv 3) (ce_add (ce_fdiv (cv 3) ce_int) ce_int)) (cv 4)) ce_int) ce_int))
      (cs_one (cs_expr (ce_append (cv 2) (ca_cons (cv 3) ca_nil))))))
      (cs_one (cs_ret (cv 2))))))
theorem sc_law_answer : FnScope ["_law_values", "_law_order", "_law_before"] ["_law_values", "_law_order"] (defScope s_law_answer) := ⟨rfl, rfl, rfl, by decide +kernel, rfl, by decide +kernel, by decide +kernel⟩
set_option maxHeartbeats 4000000 in
theorem ok_law_answer {f : Addr} {fd : FuncData} {dvs : List V} (F : FunS K "_law_answer" "_law_answer" s_law_answer dvs f fd) (T : Txt K mg CA)  : FnOk P w K mg base (L2.CX P w) 1 f fd ["_law_values", "_law_order"] (spM K CA f_law_answer) :=
  def_do (b := b_law_answer) F sc_law_answer rfl rfl fun cdv A outer s H E hr => by
    unfold b_law_answer
    exact (cs_cons (cs_set (i := 2) sc_law_answer.nd (ce_get2 (hu_of hr) (cv 0) (ce_ixA (hu_of hr) (cv 1) ce_int) ce_int))
      (cs_cons (cs_if (ct_eq hr.units (ce_ixA (hu_of hr) (cv 1) ce_int) ce_str) (cs_cons (cs_setIx (hu_of hr) (cv 0) (ce_ixA (hu_of hr) (cv 1) ce_int) (ce_ixA (hu_of hr) (cv 1) ce_int))
      (cs_one (cs_ret (cv 2)))) cs_nil)
      (cs_cons (cs_if (ct_eq hr.units (ce_ixA (hu_of hr) (cv 1) ce_int) ce_str) (cs_cons (cs_setIx (hu_of hr) (cv 0) (ce_ixA (hu_of hr) (cv 1) ce_int) (ce_add (cv 2) (ce_ixA (hu_of hr) (cv 1) ce_int)))
      (cs_one (cs_ret (ce_add (cv 2) (ce_ixA (hu_of hr) (cv 1) ce_int))))) cs_nil)
      (cs_cons (cs_if (ct_eq hr.units (ce_ixA (hu_of hr) (cv 1) ce_int) (cv 2)) (cs_cons (cs_setIx (hu_of hr) (cv 0) (ce_ixA (hu_of hr) (cv 1) ce_int) (ce_ixA (hu_of hr) (cv 1) ce_int))
      (cs_one (cs_ret ce_int))) cs_nil)
      (cs_one (cs_ret ce_int))))))
theorem sc_C_Shelf_value_of : FnScope ["self", "name"] ["self", "name"] (defScope s_C_Shelf_value_of) := ⟨rfl, rfl, rfl, by decide +kernel, rfl, by decide +kernel, by decide +kernel⟩
set_option maxHeartbeats 4000000 in
theorem ok_C_Shelf_value_of {f : Addr} {fd : FuncData} {dvs : List V} (F : FunS K "value_of" "Shelf.value_of" s_C_Shelf_value_of dvs f fd) (T : Txt K mg CA)  : FnOk P w K mg base (L2.CX P w) 1 f fd ["self", "name"] (spM K CA f_C_Shelf_value_of) :=
  def_do (b := b_C_Shelf_value_of) F sc_C_Shelf_value_of rfl rfl fun cdv A outer s H E hr => by
    unfold b_C_Shelf_value_of
    exact (cs_one (cs_ret (ce_get2 (hu_of hr) (ce_fld (names := [("Shelf" : Str)]) (cv 0) T.f_by_name) (cv 1) ce_int)))
theorem sc_C_Shelf_obey : FnScope ["self", "order", "name", "before"] ["self", "order"] (defScope s_C_Shelf_obey) := ⟨rfl, rfl, rfl, by decide +kernel, rfl, by decide +kernel, by decide +kernel⟩
set_option maxHeartbeats 4000000 in
theorem ok_C_Shelf_obey {f : Addr} {fd : FuncData} {dvs : List V} (F : FunS K "obey" "Shelf.obey" s_C_Shelf_obey dvs f fd) (T : Txt K mg CA) (Tab_value_of_1 : ∀ c f, tab_value_of_1.lookup c = some f → GMeth P w K mg base CA 1 c "value_of" f []) : FnOk P w K mg base (L2.CX P w) 2 f fd ["self", "order"] (spM K CA f_C_Shelf_obey) :=
  def_do (b := b_C_Shelf_obey) F sc_C_Shelf_obey rfl rfl fun cdv A outer s H E hr => by
    unfold b_C_Shelf_obey
    exact (cs_cons (cs_set (i := 2) sc_C_Shelf_obey.nd (ce_ixA (hu_of hr) (cv 1) ce_int))
      (cs_cons (cs_set (i := 3) sc_C_Shelf_obey.nd (ce_meth (cv 0) Tab_value_of_1 "Shelf" f_C_Shelf_value_of (by rfl) hr (takes_of rfl rfl rfl rfl) (ca_cons (cv 2) ca_nil)))
      (cs_cons (cs_if (ct_eq hr.units (ce_ixA (hu_of hr) (cv 1) ce_int) ce_str) (cs_cons (cs_setIx (hu_of hr) (ce_fld (names := [("Shelf" : Str)]) (cv 0) T.f_by_name) (cv 2) (ce_ixA (hu_of hr) (cv 1) ce_int))
      (cs_one (cs_ret (cv 3)))) cs_nil)
      (cs_cons (cs_if (ct_eq hr.units (ce_ixA (hu_of hr) (cv 1) ce_int) ce_str) (cs_cons (cs_setIx (hu_of hr) (ce_fld (names := [("Shelf" : Str)]) (cv 0) T.f_by_name) (cv 2) (ce_add (cv 3) (ce_ixA (hu_of hr) (cv 1) ce_int)))
      (cs_one (cs_ret (ce_add (cv 3) (ce_ixA (hu_of hr) (cv 1) ce_int))))) cs_nil)
      (cs_cons (cs_if (ct_ne hr.units (cv 3) (ce_ixA (hu_of hr) (cv 1) ce_int)) (cs_one (cs_ret ce_int)) cs_nil)
      (cs_cons (cs_setIx (hu_of hr) (ce_fld (names := [("Shelf" : Str)]) (cv 0) T.f_by_name) (cv 2) (ce_ixA (hu_of hr) (cv 1) ce_int))
      (cs_one (cs_ret ce_int))))))))
theorem sc_C_Shelf_do : FnScope ["self", "who", "number", "order"] ["self", "who", "number", "order"] (defScope s_C_Shelf_do) := ⟨rfl, rfl, rfl, by decide +kernel, rfl, by decide +kernel, by decide +kernel⟩
set_option maxHeartbeats 4000000 in
theorem ok_C_Shelf_do {f : Addr} {fd : FuncData} {dvs : List V} (F : FunS K "do" "Shelf.do" s_C_Shelf_do dvs f fd) (T : Txt K mg CA) (Tab_obey_1 : ∀ c f, tab_obey_1.lookup c = some f → GMeth P w K mg base CA 2 c "obey" f []) : FnOk P w K mg base (L2.CX P w) 3 f fd ["self", "who", "number", "order"] (spM K CA f_C_Shelf_do) :=
  def_do (b := b_C_Shelf_do) F sc_C_Shelf_do rfl rfl fun cdv A outer s H E hr => by
    unfold b_C_Shelf_do
    exact (cs_cons (cs_if (ct_notInA (hu65 hr) (ce_tup (ca_cons (cv 1) (ca_cons (cv 2) ca_nil))) (ce_fld (names := [("Shelf" : Str)]) (cv 0) T.f_by_ask)) (cs_one (cs_setIx (hu_of hr) (ce_fld (names := [("Shelf" : Str)]) (cv 0) T.f_by_ask) (ce_tup (ca_cons (cv 1) (ca_cons (cv 2) ca_nil))) (ce_meth (cv 0) Tab_obey_1 "Shelf" f_C_Shelf_obey (by rfl) hr (takes_of rfl rfl rfl rfl) (ca_cons (cv 3) ca_nil)))) cs_nil)
      (cs_one (cs_ret (ce_ixA (hu_of hr) (ce_fld (names := [("Shelf" : Str)]) (cv 0) T.f_by_ask) (ce_tup (ca_cons (cv 1) (ca_cons (cv 2) ca_nil)))))))
theorem sc_law_number : FnScope ["_law_number_here", "_law_cell"] ["_law_number_here", "_law_cell"] (defScope s_law_number) := ⟨rfl, rfl, rfl, by decide +kernel, rfl, by decide +kernel, by decide +kernel⟩
set_option maxHeartbeats 4000000 in
theorem ok_law_number {f : Addr} {fd : FuncData} {dvs : List V} (F : FunS K "_law_number" "_law_number" s_law_number dvs f fd) (T : Txt K mg CA)  : FnOk P w K mg base (L2.CX P w) 1 f fd ["_law_number_here", "_law_cell"] (spM K CA f_law_number) :=
  def_do (b := b_law_number) F sc_law_number rfl rfl fun cdv A outer s H E hr => by
    unfold b_law_number
    exact (cs_one (cs_ret (ce_ixA (hu_of hr) (ce_lst (ca_cons (ce_mod (cv 0) ce_int) (ca_cons (ce_mod (cv 1) (ce_pow ce_int ce_int)) (ca_cons (ce_sub ce_int (ce_mod (cv 1) (ce_pow ce_int ce_int))) (ca_cons (ce_sub ce_int (ce_mod (cv 0) ce_int)) ca_nil))))) (ce_mod (ce_fdiv (cv 0) ce_int) ce_int))))
theorem sc_law_cell_at : FnScope ["_law_script", "_law_k"] ["_law_script", "_law_k"] (defScope s_law_cell_at) := ⟨rfl, rfl, rfl, by decide +kernel, rfl, by decide +kernel, by decide +kernel⟩
set_option maxHeartbeats 4000000 in
theorem ok_law_cell_at {f : Addr} {fd : FuncData} {dvs : List V} (F : FunS K "_law_cell_at" "_law_cell_at" s_law_cell_at dvs f fd) (T : Txt K mg CA)  : FnOk P w K mg base (L2.CX P w) 1 f fd ["_law_script", "_law_k"] (spM K CA f_law_cell_at) :=
  def_do (b := b_law_cell_at) F sc_law_cell_at rfl rfl fun cdv A outer s H E hr => by
    unfold b_law_cell_at
    exact (cs_cons (cs_if (ct_lt (cv 1) (ce_len T.n_len (ca_cons (cv 0) ca_nil))) (cs_one (cs_ret (ce_ixA (hu_of hr) (cv 0) (cv 1)))) cs_nil)
      (cs_one (cs_ret ce_int)))
theorem sc_law_whole : FnScope ["_law_found"] ["_law_found"] (defScope s_law_whole) := ⟨rfl, rfl, rfl, by decide +kernel, rfl, by decide +kernel, by decide +kernel⟩
set_option maxHeartbeats 4000000 in
theorem ok_law_whole {f : Addr} {fd : FuncData} {dvs : List V} (F : FunS K "_law_whole" "_law_whole" s_law_whole dvs f fd) (T : Txt K mg CA)  : FnOk P w K mg base (L2.CX P w) 1 f fd ["_law_found"] (spM K CA f_law_whole) :=
  def_do (b := b_law_whole) F sc_law_whole rfl rfl fun cdv A outer s H E hr => by
    unfold b_law_whole
    exact (cs_one (cs_ret (ce_and (ce_isinst (T := "int") T.n_isinstance (cv 0) (ce_ty (T := "int") rfl T.n_int (by decide +kernel))) (ce_one (ce_not (ce_isinst (T := "bool") T.n_isinstance (cv 0) (ce_ty (T := "bool") rfl T.n_bool (by decide +kernel))))))))
theorem sc_law : FnScope ["_law_script", "_law_names", "_law_number_here", "_law_values", "_law_shelf", "_law_k", "_law_xs", "_law_name_here", "_law_order", "_law_old", "_law_due", "_law_found", "_law_other", "_law_value"] ["_law_script"] (defScope s_law) := ⟨rfl, rfl, rfl, by decide +kernel, rfl, by decide +kernel, by decide +kernel⟩
set_option maxHeartbeats 4000000 in
theorem ok_law {f : Addr} {fd : FuncData} {dvs : List V} (F : FunS K "law" "law" s_law dvs f fd) (T : Txt K mg CA) (G_law_answer : GDef P w K mg base CA 1 "_law_answer" f_law_answer []) (G_law_cell_at : GDef P w K mg base CA 1 "_law_cell_at" f_law_cell_at []) (G_law_name : GDef P w K mg base CA 1 "_law_name" f_law_name []) (G_law_number : GDef P w K mg base CA 1 "_law_number" f_law_number []) (G_law_stream : GDef P w K mg base CA 1 "_law_stream" f_law_stream []) (G_law_whole : GDef P w K mg base CA 1 "_law_whole" f_law_whole []) (M_Shelf : GMake P w K mg base CA 1 "Shelf" f_C_Shelf_init []) (Tab_do_3 : ∀ c f, tab_do_3.lookup c = some f → GMeth P w K mg base CA 3 c "do" f []) (Tab_value_of_1 : ∀ c f, tab_value_of_1.lookup c = some f → GMeth P w K mg base CA 1 c "value_of" f []) : FnOk P w K mg base (L2.CX P w) 4 f fd ["_law_script"] (spM K CA f_law) :=
  def_do (b := b_law) F sc_law rfl rfl fun cdv A outer s H E hr => by
    unfold b_law
    exact (cs_cons (cs_setLc (i := 1) rfl sc_law.nd rfl rfl (sw_true rfl rfl rfl (by decide +kernel)) (ci_any (ce_def G_law_stream (hr.mono (by decide)) (takes_of rfl rfl rfl rfl) (ca_cons (ce_def G_law_cell_at (hr.mono (by decide)) (takes_of rfl rfl rfl rfl) (ca_cons (cv 0) (ca_cons ce_int ca_nil))) (ca_cons ce_int ca_nil)))) (blkOk_by (own := [(("_law_number_here" : Str), 2)]) (N := ["_law_script", "_law_names", "_law_number_here", "_law_values", "_law_shelf", "_law_k", "_law_xs", "_law_name_here", "_law_order", "_law_old", "_law_due", "_law_found", "_law_other", "_law_value"]) (sc := defScope s_law) (by decide +kernel)) (fun _ _ _ _ _ => (cg_name (i := 2) sc_law.nd)) (fun _ _ _ _ _ => ct_none) (fun _ _ _ _ _ => (ce_def G_law_name (hr.mono (by decide)) takes0 (ca_cons (cv 2) ca_nil))))
      (cs_cons (cs_set (i := 3) sc_law.nd ce_dkNew)
      (cs_cons (cs_set (i := 4) sc_law.nd (ce_make0 M_Shelf (hr.mono (by decide)) (takes_of rfl rfl rfl rfl)))
      (cs_cons (cs_for (passes_of rfl) rfl (ci_rng1 T.n_range (ca_cons (ce_min2 rfl T.n_min (ca_cons (ce_len T.n_len (ca_cons (cv 0) ca_nil)) (ca_cons ce_int ca_nil))) ca_nil)) (cg_name (i := 5) sc_law.nd) (cs_cons (cs_set (i := 6) sc_law.nd (ce_def G_law_stream (hr.mono (by decide)) (takes_of rfl rfl rfl rfl) (ca_cons (ce_ixA (hu_of hr) (cv 0) (cv 5)) (ca_cons ce_int ca_nil))))
      (cs_cons (cs_set (i := 7) sc_law.nd (ce_ixA (hu_of hr) (cv 1) (ce_mod (ce_ixA (hu_of hr) (cv 6) ce_int) ce_int)))
      (cs_cons (cs_set (i := 8) sc_law.nd (ce_tup (ca_cons (ce_ixA (hu_of hr) (ce_lst (ca_cons ce_str (ca_cons ce_str ca_nil))) (ce_mod (ce_ixA (hu_of hr) (cv 6) ce_int) ce_int)) (ca_cons (cv 7) (ca_cons (ce_def G_law_number (hr.mono (by decide)) (takes_of rfl rfl rfl rfl) (ca_cons (ce_ixA (hu_of hr) (cv 6) ce_int) (ca_cons (ce_ixA (hu_of hr) (cv 0) (cv 5)) ca_nil))) ca_nil)))))
      (cs_cons (cs_if (ct_eq hr.units (ce_mod (ce_ixA (hu_of hr) (cv 6) ce_int) ce_int) ce_int) (cs_cons (cs_set (i := 9) sc_law.nd (ce_ixA (hu_of hr) (ce_lst (ca_cons (ce_get2 (hu_of hr) (cv 3) (cv 7) ce_int) (ca_cons (ce_def G_law_number (hr.mono (by decide)) (takes_of rfl rfl rfl rfl) (ca_cons (ce_ixA (hu_of hr) (cv 6) ce_int) (ca_cons (ce_ixA (hu_of hr) (cv 0) (cv 5)) ca_nil))) ca_nil))) (ce_mod (ce_ixA (hu_of hr) (cv 6) ce_int) ce_int)))
      (cs_one (cs_set (i := 8) sc_law.nd (ce_tup (ca_cons ce_str (ca_cons (cv 7) (ca_cons (cv 9) (ca_cons (ce_def G_law_number (hr.mono (by decide)) (takes_of rfl rfl rfl rfl) (ca_cons (ce_ixA (hu_of hr) (cv 6) ce_int) (ca_cons (ce_ixA (hu_of hr) (cv 0) (cv 5)) ca_nil))) ca_nil)))))))) cs_nil)
      (cs_cons (cs_set (i := 10) sc_law.nd (ce_def G_law_answer (hr.mono (by decide)) (takes_of rfl rfl rfl rfl) (ca_cons (cv 3) (ca_cons (cv 8) ca_nil))))
      (cs_cons (cs_set (i := 11) sc_law.nd (ce_meth (cv 4) Tab_do_3 "Shelf" f_C_Shelf_do (by rfl) hr (takes_of rfl rfl rfl rfl) (ca_cons (ce_sub (ce_mod (ce_ixA (hu_of hr) (cv 6) ce_int) ce_int) ce_int) (ca_cons (ce_sub (cv 5) ce_int) (ca_cons (cv 8) ca_nil)))))
      (cs_cons (cs_if (PW.pt (cw_or (ct_not (ct_truth (ce_def G_law_whole (hr.mono (by decide)) (takes_of rfl rfl rfl rfl) (ca_cons (cv 11) ca_nil)))) (cw_or1 (ct_ne hr.units (cv 11) (cv 10))))) (cs_one (cs_ret ce_bl)) cs_nil)
      (cs_one (cs_for (passes_of rfl) rfl (ci_any (ce_lst (ca_cons (cv 7) (ca_cons (ce_ixA (hu_of hr) (cv 1) (ce_mod (ce_ixA (hu_of hr) (cv 6) ce_int) ce_int)) ca_nil)))) (cg_name (i := 12) sc_law.nd) (cs_cons (cs_set (i := 13) sc_law.nd (ce_meth (cv 4) Tab_value_of_1 "Shelf" f_C_Shelf_value_of (by rfl) (hr.mono (by decide)) (takes_of rfl rfl rfl rfl) (ca_cons (cv 12) ca_nil)))
      (cs_one (cs_if (PW.pt (cw_or (ct_not (ct_truth (ce_def G_law_whole (hr.mono (by decide)) (takes_of rfl rfl rfl rfl) (ca_cons (cv 13) ca_nil)))) (cw_or1 (ct_ne hr.units (cv 13) (ce_get2 (hu_of hr) (cv 3) (cv 12) ce_int))))) (cs_one (cs_ret ce_bl)) cs_nil)))))))))))))
      (cs_cons (cs_for (passes_of rfl) rfl (ci_any (ce_add (cv 1) (ce_lst (ca_cons ce_str (ca_cons ce_str ca_nil))))) (cg_name (i := 12) sc_law.nd) (cs_cons (cs_set (i := 13) sc_law.nd (ce_meth (cv 4) Tab_value_of_1 "Shelf" f_C_Shelf_value_of (by rfl) (hr.mono (by decide)) (takes_of rfl rfl rfl rfl) (ca_cons (cv 12) ca_nil)))
      (cs_one (cs_if (PW.pt (cw_or (ct_not (ct_truth (ce_def G_law_whole (hr.mono (by decide)) (takes_of rfl rfl rfl rfl) (ca_cons (cv 13) ca_nil)))) (cw_or1 (ct_ne hr.units (cv 13) (ce_get2 (hu_of hr) (cv 3) (cv 12) ce_int))))) (cs_one (cs_ret ce_bl)) cs_nil))))
      (cs_one (cs_ret ce_bl)))))))
end
end Gn

local macro_rules | `(tactic| simp_arith [$xs,*]) => `(tactic| simp only [$xs,*, M.bind_ok, M.bind_exc, M.bind_bad, M.fl_ok, M.fl_exc, M.fl_bad, M.mNil_eq, M.mSeq_eq, M.mSet_eq, M.mRet_eq, M.mRetN_eq, M.mDrop_eq, M.mIfS_eq, M.mBreak_eq, M.mCont_eq, M.mAsg_eq, M.tgSet_one, M.tgSet_many, M.setAll_nil, M.setAll_cons, M.mC_eq, M.mVar_zero, M.mVar_succ, M.mBin_eq, M.mUn_eq, M.mArgs_nil, M.mArgs_cons, M.mTup_eq, M.mLst_eq, M.mCall_eq, M.mCallD_nil, M.mTest_eq, M.dBool_bl, M.mTruth_eq, M.dTru_bl, M.mAndT_eq, M.mOrT_eq, M.mNotT_eq, M.mAnd_eq, M.mOr_eq, M.mNot_eq, M.mIf_eq, M.dII_eq, M.dAdd_int, M.dMod_pos, M.dFdiv_pos, M.dShr_nn, M.pyD_int, M.pyD_bl, M.pyD_non, M.dEq_int, M.dNe_int, M.dEq_bl, M.dNe_bl, M.isInst_int_int, M.isInst_bool_int, M.isInst_bool_bl, M.isInst_int_bl, M.mBM_eq, M.run0, M.run1, M.run2, M.run3, M.run4, M.run5, M.run6, M.run7, M.outF_nx, M.outF_rt, M.outF_exc, M.set_zero', M.set_succ', M.map_nil', M.map_cons', M.app_nil', M.app_cons', M.app_end', M.rep_zero', M.rep_succ', M.len_nil', M.not_t', M.not_f', M.beq_t', M.beq_f', M.beq_tf', M.beq_ft', if_true, if_false, Bool.false_eq_true, Int.reduceLT, Int.reduceLE, Int.reduceAdd, Int.reduceSub, M.dMul_two, M.mMeth_eq, M.mGet2_eq, M.mSetIx_eq, M.mSl_eq, M.mPart_none, M.mPart_some, true_and, and_true, decide_true, decide_false])

/-! ### a cell of the script -/
namespace Gn
open PySem L2 M
theorem cell_at_do {S : Store} {n : Nat} {f : Bool} {ns : List Int} (h : S[n]? = some (.lst f (ns.map D.int))) (k : Nat) : f_law_cell_at [.ref n, .int (k : Int)] S = .ok (.int (ns.getD k 0)) S := by
  by_cases l : k < ns.length
  · have e : decide ((k : Int) < ((ns.length : Nat) : Int)) = true := decide_eq_true (by omega)
    have hx : (ns.map D.int)[k]? = some (.int (ns.getD k 0)) := by
      rw [List.getElem?_map, List.getElem?_eq_getElem l]
      simp [l]
    simp_arith [f_law_cell_at, b_law_cell_at, dLen_lst h, List.length_map, e, dIx_lst h (atI_nat' rfl hx)]
  · have e : decide ((k : Int) < ((ns.length : Nat) : Int)) = false := decide_eq_false (by omega)
    have hx : ns.getD k 0 = 0 := by simp [Nat.le_of_not_lt l]
    simp_arith [f_law_cell_at, b_law_cell_at, dLen_lst h, List.length_map, e, hx]
end Gn

/-! ### a whole number -/
namespace Gn
open PySem L2 M
theorem whole_do (S : Store) (x : Int) : f_law_whole [.int x] S = .ok (.bl true) S := by
  simp_arith [f_law_whole, b_law_whole]
end Gn

/-! ### the law's stream of numbers -/
namespace Gn
open PySem L2 M
theorem mulA_int (i j : Int) (S : Store) : dMulA (.int i) (.int j) S = dMul (.int i) (.int j) S := rfl
theorem stream_do (S : Store) (c : Int) (n : Nat) (hn : n < 1000) : ∃ xs : List Int, xs.length = n ∧ (∀ x ∈ xs, 0 ≤ x ∧ x < 2147483647) ∧ f_law_stream [.int c, .int (n : Int)] S = .ok (.ref S.length) (S ++ [.lst false (xs.map D.int)]) := by
  have loop : ∃ xs : List Int, xs.length = n ∧ (∀ x ∈ xs, 0 ≤ x ∧ x < 2147483647) ∧ ∃ x3 x4, mFor (miRng1 [(mVar 1)]) (.one 4) (mSeq (mSet 3 (mBin dMod (mBin dAdd (mBin dAdd (mBin dMulA (mVar 3) (mBin dAdd (mBin dFdiv (mVar 3) (mC (.int 1009))) (mC (.int 69621)))) (mVar 4)) (mC (.int 1))) (mC (.int 2147483647))))
    (mDrop (mBM isLst dAppend (mVar 2) [(mVar 3)]))) [some (.int c), some (.int (n : Int)), some (.ref S.length), some (.int ((c * 48271 + 7919) % 2147483647)), none] (S ++ [.lst false []]) = .nx [some (.int c), some (.int (n : Int)), some (.ref S.length), x3, x4] (S ++ [.lst false (xs.map D.int)]) := by
    rw [mFor_eq, miRng1_eq (j := (n : Int)) rfl ⟨by omega, by omega⟩, fl_ok, Int.toNat_natCast]
    refine loop_rule (n := n) (fun i e S' => ∃ xs : List Int, xs.length = i ∧ (∀ x ∈ xs, 0 ≤ x ∧ x < 2147483647) ∧ S' = S ++ [.lst false (xs.map D.int)] ∧ ∃ (v : Int) (x4 : Option D), 0 ≤ v ∧ v < 2147483647 ∧ e = [some (.int c), some (.int (n : Int)), some (.ref S.length), some (.int v), x4])
      (fun fl => ∃ xs : List Int, xs.length = n ∧ (∀ x ∈ xs, 0 ≤ x ∧ x < 2147483647) ∧ ∃ x3 x4, fl = .nx [some (.int c), some (.int (n : Int)), some (.ref S.length), x3, x4] (S ++ [.lst false (xs.map D.int)])) ?_ ?_ ?_
    · exact ⟨[], rfl, by simp, rfl, _, none, Int.emod_nonneg _ (by decide), Int.emod_lt_of_pos _ (by decide), rfl⟩
    · rintro i e S' hi ⟨xs, hx, hb, rfl, v, x4, v0, v1, rfl⟩
      refine ⟨.int (i : Int), _, by rw [step_rng hi, Int.zero_add], rfl, ?_⟩
      have hm : dMul (.int v) (.int (v / 1009 + 69621)) (S ++ [.lst false (xs.map D.int)]) = .ok (.int (v * (v / 1009 + 69621))) _ := dMul_l ⟨by omega, by omega⟩
      have at1 := app_at S (.lst false (xs.map D.int))
      have la : ∀ y, dAppend (.ref S.length) [.int y] (S ++ [.lst false (xs.map D.int)]) = .ok .non (S ++ [.lst false ((xs ++ [y]).map D.int)]) := fun y => by
        rw [dAppend_lst at1 (by rw [List.length_map, hx]; show i < 1000000; omega)]
        simp
      generalize ew : (v * (v / 1009 + 69621) + (i : Int) + 1) % 2147483647 = w
      have w0 : 0 ≤ w ∧ w < 2147483647 := ew ▸ ⟨Int.emod_nonneg _ (by decide), Int.emod_lt_of_pos _ (by decide)⟩
      simp_arith [mulA_int, hm, isLst_lst at1, ew, la]
      refine ⟨xs ++ [w], by rw [List.length_append, hx]; rfl, ?_, rfl, w, _, w0.1, w0.2, rfl⟩
      intro x hx
      rcases List.mem_append.mp hx with h | h
      · exact hb x h
      · rw [List.mem_singleton.mp h]; exact w0
    · rintro e S' ⟨xs, hx, hb, rfl, v, x4, v0, v1, rfl⟩
      exact ⟨step_rng_end, xs, hx, hb, _, _, rfl⟩
  obtain ⟨xs, hx, hb, x3, x4, loop⟩ := loop
  refine ⟨xs, hx, hb, ?_⟩
  have hm : ∀ S, dMul (.int c) (.int 48271) S = .ok (.int (c * 48271)) S := fun S => dMul_r ⟨by omega, by omega⟩
  have q : ∀ S, mSet 3 (mBin dMod (mBin dAdd (mBin dMulA (mVar 0) (mC (.int 48271))) (mC (.int 7919))) (mC (.int 2147483647))) [some (.int c), some (.int (n : Int)), some (.ref S.length), none, none] (S ++ [.lst false []]) = .nx [some (.int c), some (.int (n : Int)), some (.ref S.length), some (.int ((c * 48271 + 7919) % 2147483647)), none] (S ++ [.lst false []]) := fun S => by simp_arith [mulA_int, hm]
  have z : mSet 2 (mLst []) [some (.int c), some (.int (n : Int)), none, none, none] S = .nx [some (.int c), some (.int (n : Int)), some (.ref S.length), none, none] (S ++ [.lst false []]) := rfl
  unfold f_law_stream b_law_stream
  rw [run2]
  show outF (mSeq _ _ [some (.int c), some (.int (n : Int)), none, none, none] S) = _
  rw [seq_nx z, seq_nx (q S), seq_nx loop]
  rfl
/-- the k-th number of a list of numbers -/
theorem ix_ints {S : Store} {n : Nat} {f : Bool} {xs : List Int} {m : Nat} (h : S[n]? = some (.lst f (xs.map D.int))) (hl : xs.length = m) (k : Nat) (hk : k < m) : dIxA (.ref n) (.int (k : Int)) S = .ok (.int (xs.getD k 0)) S := by
  refine dIx_lst h (atI_nat' rfl ?_)
  rw [List.getElem?_map, List.getElem?_eq_getElem (by omega)]
  simp [hl, hk]
theorem getD_of {xs : List Int} {k : Nat} {P : Int → Prop} (h : ∀ x ∈ xs, P x) (hk : k < xs.length) : P (xs.getD k 0) := by
  have : xs.getD k 0 = xs[k] := by simp [hk]
  rw [this]
  exact h _ (List.getElem_mem hk)
end Gn

/-! ### names, numbers, orders -/
namespace Gn
open PySem L2 M
theorem mulS_len : ∀ n : Nat, n < 9 → (mulS ("e" : Str) (n : Int)).length = n := by decide
theorem mulE_do {i : Int} (h0 : 0 ≤ i) (h1 : i < 9) : ∃ z : Str, z.length ≤ 8 ∧ ∀ S, dMulA (.str ("e" : Str)) (.int i) S = .ok (.str z) S := by
  obtain ⟨n, rfl⟩ : ∃ n : Nat, i = (n : Int) := ⟨i.toNat, by omega⟩
  have hl := mulS_len n (by omega)
  refine ⟨mulS ("e" : Str) (n : Int), by omega, fun S => ?_⟩
  unfold dMulA dMulS
  have hc : -(2 ^ 63) ≤ (n : Int) ∧ (n : Int) ≤ 1000000 ∧ ("e" : Str).length * (n : Int).toNat ≤ LIM ∧ ("e" : Str).length ≤ 1000000 ∧ (mulS ("e" : Str) (n : Int)).length ≤ LIM := by
    refine ⟨by omega, by omega, ?_, by decide, ?_⟩
    · show 1 * (n : Int).toNat ≤ 1000000
      omega
    · rw [hl]
      show n ≤ 1000000
      omega
  simp only
  rw [if_pos hc]
theorem addStr {S : Store} {a b : Str} (h : a.length + b.length ≤ 1000000) : dAdd (.str a) (.str b) S = .ok (.str (a ++ b)) S := by
  unfold dAdd
  exact if_pos h
theorem str_app_len (a b : Str) : (a ++ b).length = a.length + b.length := by
  show (a.cps ++ b.cps).size = a.cps.size + b.cps.size
  exact Array.size_append
abbrev abc : Str := "abcdefghijklmnopqrstuvwxyz"
theorem abc_do {i : Int} (h0 : 0 ≤ i) (h1 : i < 26) : ∃ c : Nat, ∀ S, dIxA (.str abc) (.int i) S = .ok (.str ⟨#[c]⟩) S := by
  obtain ⟨n, rfl⟩ : ∃ n : Nat, i = (n : Int) := ⟨i.toNat, by omega⟩
  have hn : n < 26 := by omega
  have hx : ∃ c, abc.cps.toList[n]? = some c := ⟨_, List.getElem?_eq_getElem (by show n < 26; exact hn)⟩
  obtain ⟨c, hx⟩ := hx
  refine ⟨c, fun S => ?_⟩
  have e : isDictD (.str abc) S = false := rfl
  unfold dIxA
  rw [e, if_neg (by decide)]
  unfold dIx dIxS
  simp only
  rw [atI_nat hx]
  exact if_pos (by decide)
theorem name_do {v : Int} (h : 0 ≤ v) : ∃ z : Str, ∀ S, f_law_name [.int v] S = .ok (.str z) S := by
  have s0 : 0 < 1 + v % 8 ∧ 1 + v % 8 ≤ 8 := by omega
  have a0 : 0 ≤ v / 8 % (1 + v % 8) := Int.emod_nonneg _ (by omega)
  have a1 : v / 8 % (1 + v % 8) < 1 + v % 8 := Int.emod_lt_of_pos _ s0.1
  have hm : ∀ S, dMod (.int (v / 8)) (.int (1 + v % 8)) S = .ok (.int (v / 8 % (1 + v % 8))) S := fun S => dMod_pos _ _ s0.1
  obtain ⟨z1, l1, q1⟩ := mulE_do a0 (by omega)
  obtain ⟨c, q2⟩ := abc_do (i := v / 64 % 26) (Int.emod_nonneg _ (by decide)) (Int.emod_lt_of_pos _ (by decide))
  obtain ⟨z2, l2, q3⟩ := mulE_do (i := 1 + v % 8 - v / 8 % (1 + v % 8) - 1) (by omega) (by omega)
  have sub : ∀ (i j : Int) S, dSub (.int i) (.int j) S = .ok (.int (i - j)) S := fun _ _ _ => rfl
  have q4 : ∀ S, dAdd (.str z1) (.str ⟨#[c]⟩) S = .ok (.str (z1 ++ (⟨#[c]⟩ : Str))) S := fun S => addStr (by show _ + 1 ≤ _; omega)
  have l4 : (z1 ++ (⟨#[c]⟩ : Str)).length = z1.length + 1 := str_app_len _ _
  have q5 : ∀ S, dAdd (.str (z1 ++ (⟨#[c]⟩ : Str))) (.str z2) S = .ok (.str (z1 ++ (⟨#[c]⟩ : Str) ++ z2)) S := fun S => addStr (by omega)
  exact ⟨z1 ++ (⟨#[c]⟩ : Str) ++ z2, fun S => by simp_arith [f_law_name, b_law_name, hm, q1, q2, sub, q3, q4, q5]⟩
theorem number_do (S : Store) {v : Int} (c : Int) (h : 0 ≤ v) : ∃ (w : Int) (x : Cell), f_law_number [.int v, .int c] S = .ok (.int w) (S ++ [x]) := by
  have hp : ∀ S, dPow (.int 10) (.int 40) S = .ok (.int (10 ^ 40)) S := fun S => dPow_nn ⟨by decide, by decide, by decide⟩
  have hm : ∀ S, dMod (.int c) (.int (10 ^ 40)) S = .ok (.int (c % 10 ^ 40)) S := fun S => dMod_pos _ _ (by decide)
  have sub : ∀ (i j : Int) S, dSub (.int i) (.int j) S = .ok (.int (i - j)) S := fun _ _ _ => rfl
  generalize (10 : Int) ^ 40 = T at hp hm
  generalize ec : [D.int (v % 10), .int (c % T), .int (0 - c % T), .int (0 - v % 3)] = ds
  have hix : ∃ w, dIxA (.ref S.length) (.int (v / 10 % 4)) (S ++ [.lst false ds]) = .ok (.int w) (S ++ [.lst false ds]) := by
    have : v / 10 % 4 = 0 ∨ v / 10 % 4 = 1 ∨ v / 10 % 4 = 2 ∨ v / 10 % 4 = 3 := by omega
    subst ec
    rcases this with e | e | e | e
    · exact ⟨_, by rw [e]; exact dIx_lst (app_at _ _) rfl⟩
    · exact ⟨_, by rw [e]; exact dIx_lst (app_at _ _) rfl⟩
    · exact ⟨_, by rw [e]; exact dIx_lst (app_at _ _) rfl⟩
    · exact ⟨_, by rw [e]; exact dIx_lst (app_at _ _) rfl⟩
  obtain ⟨w, hix⟩ := hix
  exact ⟨w, .lst false ds, by simp_arith [f_law_number, b_law_number, hp, hm, sub, ec, hix]⟩
/-- an order -/
inductive Ord where
  | put (k : Str) (i : Int)
  | add (k : Str) (i : Int)
  | swap (k : Str) (i j : Int)
def Ord.d : Ord → D
  | .put k i => .tup [.str ("put" : Str), .str k, .int i]
  | .add k i => .tup [.str ("add" : Str), .str k, .int i]
  | .swap k i j => .tup [.str ("swap" : Str), .str k, .int i, .int j]
def Ord.key : Ord → Str
  | .put k _ => k
  | .add k _ => k
  | .swap k _ _ => k
/-- the answer, and the name's new value -/
def act (o : Ord) (b : Int) : Int × Option Int := match o with
  | .put _ i => (b, some i)
  | .add _ i => (b + i, some (b + i))
  | .swap _ i j => if b = i then (1, some j) else (0, none)
def nxt (V : List (Key × D)) (k : Str) : Option Int → List (Key × D)
  | some i => putD V (.inr k) (.int i)
  | none => V
def getV (V : List (Key × D)) (k : Str) : D := (lookD V (.inr k)).getD (.int 0)
theorem eq_word {S : Store} {a b : Str} (ha : PyData.strOk a = true) (hb : PyData.strOk b = true) : dEq (.str a) (.str b) S = .ok (.bl (a == b)) S := by
  simp [dEq, pyD, ha, hb, PyData.eqv]
theorem w_pp (S : Store) : dEq (.str ("put" : Str)) (.str ("put" : Str)) S = .ok (.bl true) S := by rw [eq_word (by decide +kernel) (by decide +kernel)]; rfl
theorem w_ap (S : Store) : dEq (.str ("add" : Str)) (.str ("put" : Str)) S = .ok (.bl false) S := by rw [eq_word (by decide +kernel) (by decide +kernel)]; rfl
theorem w_sp (S : Store) : dEq (.str ("swap" : Str)) (.str ("put" : Str)) S = .ok (.bl false) S := by rw [eq_word (by decide +kernel) (by decide +kernel)]; rfl
theorem w_aa (S : Store) : dEq (.str ("add" : Str)) (.str ("add" : Str)) S = .ok (.bl true) S := by rw [eq_word (by decide +kernel) (by decide +kernel)]; rfl
theorem w_sa (S : Store) : dEq (.str ("swap" : Str)) (.str ("add" : Str)) S = .ok (.bl false) S := by rw [eq_word (by decide +kernel) (by decide +kernel)]; rfl
theorem get_ok {V : List (Key × D)} {k : Str} {b : Int} (h : getV V k = .int b) : (lookD V (.inr k)).getD (.int 0) = .int b := h
theorem ix0 (S : Store) (a : D) (ds : List D) : dIxA (.tup (a :: ds)) (.int 0) S = .ok a S := dIx_tup (atI_nat' (j := 0) rfl rfl)
theorem ix1 (S : Store) (a b : D) (ds : List D) : dIxA (.tup (a :: b :: ds)) (.int 1) S = .ok b S := dIx_tup (atI_nat' (j := 1) rfl rfl)
theorem ix2 (S : Store) (a b c : D) (ds : List D) : dIxA (.tup (a :: b :: c :: ds)) (.int 2) S = .ok c S := dIx_tup (atI_nat' (j := 2) rfl rfl)
theorem ix3 (S : Store) (a b c d : D) (ds : List D) : dIxA (.tup (a :: b :: c :: d :: ds)) (.int 3) S = .ok d S := dIx_tup (atI_nat' (j := 3) rfl rfl)
/-- the law's own dict does what is asked -/
theorem answer_do {S : Store} {n : Nat} {V : List (Key × D)} (o : Ord) {b : Int} (h : S[n]? = some (.dk false V)) (hl : V.length < LIM) (hb : getV V o.key = .int b) :
    f_law_answer [.ref n, o.d] S = .ok (.int (act o b).1) (S.set n (.dk false (nxt V o.key (act o b).2))) := by
  have gt := isDict_dk h
  cases o with
  | put k i =>
    have hb' : (lookD V (.inr k)).getD (.int 0) = .int b := hb
    simp_arith [f_law_answer, b_law_answer, Ord.d, ix0, ix1, ix2, gt, dGet_dk h, hb', w_pp, dSet_dk h k _ hl, act, nxt, Ord.key]
  | add k i =>
    have hb' : (lookD V (.inr k)).getD (.int 0) = .int b := hb
    simp_arith [f_law_answer, b_law_answer, Ord.d, ix0, ix1, ix2, gt, dGet_dk h, hb', w_ap, w_aa, dSet_dk h k _ hl, act, nxt, Ord.key]
  | swap k i j =>
    have hb' : (lookD V (.inr k)).getD (.int 0) = .int b := hb
    by_cases e : b = i
    · have e' : (i == b) = true := by rw [e]; exact beq_self_eq_true i
      simp_arith [f_law_answer, b_law_answer, Ord.d, ix0, ix1, ix2, ix3, gt, dGet_dk h, hb', w_sp, w_sa, e', dSet_dk h k _ hl, act, nxt, Ord.key, if_pos e]
    · have e' : (i == b) = false := by rw [beq_eq_false_iff_ne]; exact fun z => e z.symm
      simp_arith [f_law_answer, b_law_answer, Ord.d, ix0, ix1, ix2, ix3, gt, dGet_dk h, hb', w_sp, w_sa, e', act, nxt, Ord.key, if_neg e]
      rw [set_same h]
/-- the shelf does it likewise -/
theorem value_of_do {S : Store} {s n : Nat} {V : List (Key × D)} {B : D} {k : Str} {b : Int} (hs : S[s]? = some (.obj "Shelf" [("by_name", .ref n), ("by_ask", B)])) (h : S[n]? = some (.dk false V)) (hb : getV V k = .int b) :
    f_C_Shelf_value_of [.ref s, .str k] S = .ok (.int b) S := by
  have hb' : (lookD V (.inr k)).getD (.int 0) = .int b := hb
  have gf : dFldC [("Shelf" : Str)] "by_name" (.ref s) S = .ok (.ref n) S := dFld_obj hs (by simp) rfl
  simp_arith [f_C_Shelf_value_of, b_C_Shelf_value_of, mUn_eq, gf, isDict_dk h, dGet_dk h, hb']
theorem obey_do {S : Store} {s n : Nat} {V : List (Key × D)} {B : D} (o : Ord) {b : Int} (hs : S[s]? = some (.obj "Shelf" [("by_name", .ref n), ("by_ask", B)])) (h : S[n]? = some (.dk false V)) (hl : V.length < LIM) (hb : getV V o.key = .int b) :
    f_C_Shelf_obey [.ref s, o.d] S = .ok (.int (act o b).1) (S.set n (.dk false (nxt V o.key (act o b).2))) := by
  have gf : dFldC [("Shelf" : Str)] "by_name" (.ref s) S = .ok (.ref n) S := dFld_obj hs (by simp) rfl
  have gm : callM tab_value_of_1 "value_of" (.ref s) S = some f_C_Shelf_value_of := callM_obj hs rfl rfl
  have gv := value_of_do hs h hb
  cases o with
  | put k i =>
    have gv' : f_C_Shelf_value_of [.ref s, .str k] S = .ok (.int b) S := gv
    simp_arith [f_C_Shelf_obey, b_C_Shelf_obey, Ord.d, ix0, ix1, ix2, mUn_eq, gf, gm, gv', w_pp, dSet_dk h k _ hl, act, nxt, Ord.key]
  | add k i =>
    have gv' : f_C_Shelf_value_of [.ref s, .str k] S = .ok (.int b) S := gv
    simp_arith [f_C_Shelf_obey, b_C_Shelf_obey, Ord.d, ix0, ix1, ix2, mUn_eq, gf, gm, gv', w_ap, w_aa, dSet_dk h k _ hl, act, nxt, Ord.key]
  | swap k i j =>
    have gv' : f_C_Shelf_value_of [.ref s, .str k] S = .ok (.int b) S := gv
    by_cases e : b = i
    · have e' : (b == i) = true := by rw [e]; exact beq_self_eq_true i
      simp_arith [f_C_Shelf_obey, b_C_Shelf_obey, Ord.d, ix0, ix1, ix2, ix3, mUn_eq, gf, gm, gv', w_sp, w_sa, e', dSet_dk h k _ hl, act, nxt, Ord.key, if_pos e]
    · have e' : (b == i) = false := by rw [beq_eq_false_iff_ne]; exact e
      simp_arith [f_C_Shelf_obey, b_C_Shelf_obey, Ord.d, ix0, ix1, ix2, ix3, mUn_eq, gf, gm, gv', w_sp, w_sa, e', act, nxt, Ord.key, if_neg e]
      rw [set_same h]
/-- an ask that comes for the first time -/
theorem do_new {S : Store} {s n m : Nat} {V : List (Key × D)} {B : List (List Key × D)} (o : Ord) {b who num : Int} (hs : S[s]? = some (.obj "Shelf" [("by_name", .ref n), ("by_ask", .ref m)])) (h : S[n]? = some (.dk false V)) (hl : V.length < LIM) (hb : getV V o.key = .int b)
    (hm : S[m]? = some (.dt false B)) (hB : B.length < LIM) (hn : lookD B [.inl who, .inl num] = none) :
    f_C_Shelf_do [.ref s, .int who, .int num, o.d] S = .ok (.int (act o b).1) ((S.set n (.dk false (nxt V o.key (act o b).2))).set m (.dt false (putD B [.inl who, .inl num] (.int (act o b).1)))) := by
  have nm : n ≠ m := by
    rintro rfl
    rw [h] at hm
    cases hm
  have ns : n ≠ s := by
    rintro rfl
    rw [h] at hs
    cases hs
  have ms : m ≠ s := by
    rintro rfl
    rw [hm] at hs
    cases hs
  have kt : keyT (.tup [.int who, .int num]) = some [.inl who, .inl num] := rfl
  have gf : dFldC [("Shelf" : Str)] "by_ask" (.ref s) S = .ok (.ref m) S := dFld_obj hs (by simp) rfl
  have gm : callM tab_obey_1 "obey" (.ref s) S = some f_C_Shelf_obey := callM_obj hs rfl rfl
  have go := obey_do o hs h hl hb
  generalize (act o b).1 = a at go
  generalize nxt V o.key (act o b).2 = V2 at go
  have hs2 : (S.set n (.dk false V2))[s]? = some (.obj "Shelf" [("by_name", .ref n), ("by_ask", .ref m)]) := by rw [List.getElem?_set_ne ns, hs]
  have hm2 : (S.set n (.dk false V2))[m]? = some (.dt false B) := by rw [List.getElem?_set_ne nm, hm]
  generalize S.set n (.dk false V2) = S2 at go hs2 hm2
  have gf2 : dFldC [("Shelf" : Str)] "by_ask" (.ref s) S2 = .ok (.ref m) S2 := dFld_obj hs2 (by simp) rfl
  have hs3 : (S2.set m (.dt false (putD B [.inl who, .inl num] (.int a))))[s]? = some (.obj "Shelf" [("by_name", .ref n), ("by_ask", .ref m)]) := by rw [List.getElem?_set_ne ms, hs2]
  have hm3 := set_get (.dt false (putD B [.inl who, .inl num] (.int a))) hm2
  have ss := dSet_dt hm2 kt (.int a) hB
  generalize S2.set m (.dt false (putD B [.inl who, .inl num] (.int a))) = S3 at hs3 hm3 ss
  have gf3 : dFldC [("Shelf" : Str)] "by_ask" (.ref s) S3 = .ok (.ref m) S3 := dFld_obj hs3 (by simp) rfl
  have gi := dIxA_dt hm3 kt look_put
  have gn := dNotIn_dt hm kt
  rw [hn] at gn
  simp_arith [f_C_Shelf_do, b_C_Shelf_do, mUn_eq, gf, gn, gm, go, gf2, ss, gf3, gi, Option.isSome_none]
theorem names_fun : ∃ f : Int → Str, ∀ v, 0 ≤ v → ∀ S, f_law_name [.int v] S = .ok (.str (f v)) S := by
  refine (Classical.skolem (p := fun (v : Int) (z : Str) => 0 ≤ v → ∀ S, f_law_name [.int v] S = .ok (.str z) S)).mp fun v => ?_
  by_cases h : 0 ≤ v
  · obtain ⟨z, hz⟩ := name_do h
    exact ⟨z, fun _ => hz⟩
  · exact ⟨Str.empty, fun h2 => absurd h2 h⟩
/-- values are whole numbers -/
def Ints (V : List (Key × D)) : Prop := ∀ p ∈ V, ∃ i, p.2 = .int i
theorem ints_get {V : List (Key × D)} (h : Ints V) (k : Str) : ∃ b, getV V k = .int b := by
  unfold getV
  cases e : lookD V (.inr k) with
  | none => exact ⟨0, rfl⟩
  | some d => exact h _ (look_mem e)
theorem ints_nxt {V : List (Key × D)} (h : Ints V) (k : Str) (x : Option Int) : Ints (nxt V k x) := by
  cases x with
  | none => exact h
  | some i =>
    intro p hp
    rcases put_mem hp with hp | rfl
    · exact h p hp
    · exact ⟨i, rfl⟩
theorem nxt_len {V : List (Key × D)} (k : Str) (x : Option Int) : (nxt V k x).length ≤ V.length + 1 := by
  cases x with
  | none => exact Nat.le_succ _
  | some i => exact put_len
theorem make_do (e : DEnv) (S : Store) : mMake "Shelf" f_C_Shelf_init [] [] e S = .ok (.ref S.length) (S ++ [.obj "Shelf" [("by_name", .ref (S.length + 1)), ("by_ask", .ref (S.length + 2))], .dk false [], .dt false []]) := by
  have a1 : (S ++ [Cell.obj "Shelf" []] ++ [.dk false []])[S.length]? = some (.obj "Shelf" []) := by simp
  have a2 : (S ++ [Cell.obj "Shelf" [("by_name", .ref (S.length + 1))], .dk false []] ++ [.dt false []])[S.length]? = some (.obj "Shelf" [("by_name", .ref (S.length + 1))]) := by simp
  have f1 : mSetF [("Shelf" : Str)] "by_name" (mVar 0) mDkNew [some (.ref S.length)] (S ++ [.obj "Shelf" []]) = .nx [some (.ref S.length)] (S ++ [Cell.obj "Shelf" [("by_name", .ref (S.length + 1))], .dk false []]) := by
    simp [mSetF, mDkNew, mVar, putKD]
  have f2 : mSetF [("Shelf" : Str)] "by_ask" (mVar 0) mDtNew [some (.ref S.length)] (S ++ [Cell.obj "Shelf" [("by_name", .ref (S.length + 1))], .dk false []]) = .nx [some (.ref S.length)] (S ++ [.obj "Shelf" [("by_name", .ref (S.length + 1)), ("by_ask", .ref (S.length + 2))], .dk false [], .dt false []]) := by
    simp [mSetF, mDtNew, mVar, putKD]
    decide
  unfold mMake f_C_Shelf_init b_C_Shelf_init
  rw [mArgs_nil, bind_ok]
  show madeOf _ (runDef 1 1 _ [.ref S.length] _) = _
  rw [run1]
  show madeOf _ (outF (mSeq _ _ [some (.ref S.length)] _)) = _
  rw [seq_nx f1, f2]
  rfl
end Gn

/-! ### k11 -/
namespace Gn
open PySem L2 M
def base (c0 c1 c2 : Cell) (V : List (Key × D)) (B : List (List Key × D)) : Store := [c0, c1, c2, .dk false V, .obj "Shelf" [("by_name", .ref 5), ("by_ask", .ref 6)], .dk false V, .dt false B]
/-- what a name's value is, twice the same -/
theorem check_do {S : Store} {V : List (Key × D)} {B : D} (hV : Ints V) (h3 : S[3]? = some (.dk false V)) (h4 : S[4]? = some (.obj "Shelf" [("by_name", .ref 5), ("by_ask", B)])) (h5 : S[5]? = some (.dk false V)) (z : Str) (a0 a1 a2 a5 a6 a7 a8 a9 a10 a11 x13 : Option D) :
    ∃ y, (mSeq (mSet 13 (mMeth tab_value_of_1 "value_of" [] (mVar 4) [(mVar 12)]))
    (mIfS (mOrT (mNotT (mTruth (mCallD f_law_whole [] [(mVar 13)]))) (mTest (mBin dNe (mVar 13) (mGet2 (mVar 3) (mVar 12) (mC (.int 0)))))) (mRet (mC (.bl false))) mNil)) [a0, a1, a2, some (.ref 3), some (.ref 4), a5, a6, a7, a8, a9, a10, a11, some (.str z), x13] S = .nx [a0, a1, a2, some (.ref 3), some (.ref 4), a5, a6, a7, a8, a9, a10, a11, some (.str z), y] S := by
  obtain ⟨b, hb⟩ := ints_get hV z
  have gm : callM tab_value_of_1 "value_of" (.ref 4) S = some f_C_Shelf_value_of := callM_obj h4 rfl rfl
  have gv := value_of_do h4 h5 hb
  have hb' : (lookD V (.inr z)).getD (.int 0) = .int b := hb
  refine ⟨some (.int b), ?_⟩
  simp_arith [gm, gv, whole_do, isDict_dk h3, dGet_dk h3, hb', beq_self_eq_true]
theorem order_do {S : Store} {c0 c1 c2 : Cell} {V : List (Key × D)} {B : List (List Key × D)} {ns : List Int} {n6 k : Nat} {c : Int} {xs : List Int} (z : Str) (hV : Ints V) (hS : S = base c0 c1 c2 V B ++ S.drop 7) (h6 : S[n6]? = some (.lst false (xs.map D.int))) (hx : xs.length = 6) (hb : ∀ x ∈ xs, 0 ≤ x ∧ x < 2147483647)
    (hc : ∀ T, dIxA (.ref 0) (.int (k : Int)) (S ++ T) = .ok (.int c) (S ++ T)) (a8 a9 a10 a11 a12 a13 : Option D) : ∃ (o : Ord) (T : Store) (y9 : Option D), mSeq (mSet 8 (mTup [(mBin dIxA (mLst [(mC (.str ("put" : Str))), (mC (.str ("add" : Str)))]) (mBin dMod (mBin dIxA (mVar 6) (mC (.int 1))) (mC (.int 2)))), (mVar 7), (mCallD f_law_number [] [(mBin dIxA (mVar 6) (mC (.int 2))), (mBin dIxA (mVar 0) (mVar 5))])])) (mIfS (mTest (mBin dEq (mBin dMod (mBin dIxA (mVar 6) (mC (.int 1))) (mC (.int 3))) (mC (.int 0)))) (mSeq (mSet 9 (mBin dIxA (mLst [(mGet2 (mVar 3) (mVar 7) (mC (.int 0))), (mCallD f_law_number [] [(mBin dIxA (mVar 6) (mC (.int 3))), (mBin dIxA (mVar 0) (mVar 5))])]) (mBin dMod (mBin dIxA (mVar 6) (mC (.int 3))) (mC (.int 2)))))
    (mSet 8 (mTup [(mC (.str ("swap" : Str))), (mVar 7), (mVar 9), (mCallD f_law_number [] [(mBin dIxA (mVar 6) (mC (.int 2))), (mBin dIxA (mVar 0) (mVar 5))])]))) mNil) [some (.ref 0), some (.ref 2), none, some (.ref 3), some (.ref 4), some (.int (k : Int)), some (.ref n6), some (.str z), a8, a9, a10, a11, a12, a13] S = .nx [some (.ref 0), some (.ref 2), none, some (.ref 3), some (.ref 4), some (.int (k : Int)), some (.ref n6), some (.str z), some o.d, y9, a10, a11, a12, a13] (S ++ T) ∧ o.key = z := by
  have h3 : S[3]? = some (.dk false V) := by rw [hS]; rfl
  have i1 : ∀ T, dIxA (.ref n6) (.int 1) (S ++ T) = .ok (.int (xs.getD 1 0)) (S ++ T) := fun T => ix_ints (app_get h6) hx 1 (by decide)
  have i2 : ∀ T, dIxA (.ref n6) (.int 2) (S ++ T) = .ok (.int (xs.getD 2 0)) (S ++ T) := fun T => ix_ints (app_get h6) hx 2 (by decide)
  have i3 : ∀ T, dIxA (.ref n6) (.int 3) (S ++ T) = .ok (.int (xs.getD 3 0)) (S ++ T) := fun T => ix_ints (app_get h6) hx 3 (by decide)
  have b1 := getD_of (P := fun x => 0 ≤ x ∧ x < 2147483647) hb (k := 1) (by omega)
  have b2 := getD_of (P := fun x => 0 ≤ x ∧ x < 2147483647) hb (k := 2) (by omega)
  have b3 := getD_of (P := fun x => 0 ≤ x ∧ x < 2147483647) hb (k := 3) (by omega)
  generalize xs.getD 1 0 = x1 at i1 b1
  generalize xs.getD 2 0 = x2 at i2 b2
  generalize xs.getD 3 0 = x3 at i3 b3
  obtain ⟨w1, u1, q1⟩ := number_do (S ++ [.lst false [.str ("put" : Str), .str ("add" : Str)]]) (v := x2) c b2.1
  rw [List.append_assoc] at q1
  have im : ∃ wd : Str, (wd = "put" ∨ wd = "add") ∧ dIxA (.ref S.length) (.int (x1 % 2)) (S ++ [.lst false [.str ("put" : Str), .str ("add" : Str)]]) = .ok (.str wd) (S ++ [.lst false [.str ("put" : Str), .str ("add" : Str)]]) := by
    have : x1 % 2 = 0 ∨ x1 % 2 = 1 := by omega
    rcases this with e | e
    · exact ⟨_, .inl rfl, by rw [e]; exact dIx_lst (app_at _ _) rfl⟩
    · exact ⟨_, .inr rfl, by rw [e]; exact dIx_lst (app_at _ _) rfl⟩
  obtain ⟨wd, hw, im⟩ := im
  have i1' := i1 []
  rw [List.append_nil] at i1'
  have t8 : (mSet 8 (mTup [(mBin dIxA (mLst [(mC (.str ("put" : Str))), (mC (.str ("add" : Str)))]) (mBin dMod (mBin dIxA (mVar 6) (mC (.int 1))) (mC (.int 2)))), (mVar 7), (mCallD f_law_number [] [(mBin dIxA (mVar 6) (mC (.int 2))), (mBin dIxA (mVar 0) (mVar 5))])])) [some (.ref 0), some (.ref 2), none, some (.ref 3), some (.ref 4), some (.int (k : Int)), some (.ref n6), some (.str z), a8, a9, a10, a11, a12, a13] S = .nx [some (.ref 0), some (.ref 2), none, some (.ref 3), some (.ref 4), some (.int (k : Int)), some (.ref n6), some (.str z), some (.tup [.str wd, .str z, .int w1]), a9, a10, a11, a12, a13] (S ++ ([.lst false [.str ("put" : Str), .str ("add" : Str)]] ++ [u1])) := by
    simp_arith [i1, i1', im, i2, hc, q1]
  rw [seq_nx t8]
  generalize [Cell.lst false [.str ("put" : Str), .str ("add" : Str)]] ++ [u1] = T1
  cases e : (x1 % 3 == 0) with
  | false =>
    have z1 : ∃ o : Ord, o.key = z ∧ o.d = .tup [.str wd, .str z, .int w1] := by
      rcases hw with rfl | rfl
      · exact ⟨.put z w1, rfl, rfl⟩
      · exact ⟨.add z w1, rfl, rfl⟩
    obtain ⟨o, ho, hd⟩ := z1
    refine ⟨o, T1, a9, ?_, ho⟩
    simp_arith [i1, e, hd]
  | true =>
    obtain ⟨b, hbv⟩ := ints_get hV z
    have hbv' : (lookD V (.inr z)).getD (.int 0) = .int b := hbv
    obtain ⟨w2, u2, q2⟩ := number_do (S ++ T1) (v := x3) c b3.1
    rw [List.append_assoc] at q2
    have im2 : ∃ old : Int, dIxA (.ref (S ++ (T1 ++ [u2])).length) (.int (x3 % 2)) (S ++ (T1 ++ [u2] ++ [.lst false [.int b, .int w2]])) = .ok (.int old) (S ++ (T1 ++ [u2] ++ [.lst false [.int b, .int w2]])) := by
      have g : (S ++ (T1 ++ [u2] ++ [.lst false [.int b, .int w2]]))[(S ++ (T1 ++ [u2])).length]? = some (.lst false [.int b, .int w2]) := by
        rw [← List.append_assoc S]
        exact app_at _ _
      have : x3 % 2 = 0 ∨ x3 % 2 = 1 := by omega
      rcases this with e | e
      · exact ⟨_, by rw [e]; exact dIx_lst g rfl⟩
      · exact ⟨_, by rw [e]; exact dIx_lst g rfl⟩
    obtain ⟨old, im2⟩ := im2
    obtain ⟨w3, u3, q3⟩ := number_do (S ++ (T1 ++ [u2] ++ [.lst false [.int b, .int w2]])) (v := x2) c b2.1
    rw [List.append_assoc S] at q3
    have ap : ∀ (A B C : Store), S ++ (A ++ B) ++ C = S ++ (A ++ B ++ C) := fun A B C => by simp only [List.append_assoc]
    have g3 : ∀ T, isDictD (.ref 3) (S ++ T) = true := fun T => isDict_dk (app_get h3)
    have g4 : ∀ T, dictGet (.ref 3) (.str z) (S ++ T) = some (lookD V (.inr z)) := fun T => dGet_dk (app_get h3) z
    refine ⟨.swap z old w3, T1 ++ [u2] ++ [.lst false [.int b, .int w2]] ++ [u3], some (.int old), ?_, rfl⟩
    simp_arith [i1, e, g3, g4, hbv', i3, hc, q2, ap, im2, i2, q3, Ord.d]
theorem seq_two {a b c : MS} {e e1 : DEnv} {S S1 : Store} (h : mSeq a b e S = .nx e1 S1) : mSeq a (mSeq b c) e S = c e1 S1 := by
  rw [mSeq_eq] at h
  rw [mSeq_eq]
  cases ha : a e S with
  | nx e2 S2 => rw [ha] at h; exact seq_nx h
  | rt d S2 => rw [ha] at h; cases h
  | bk e2 S2 => rw [ha] at h; cases h
  | ct e2 S2 => rw [ha] at h; cases h
  | exc c d e2 S2 => rw [ha] at h; cases h
  | bad => rw [ha] at h; cases h
theorem ix_names {S : Store} {zs : List Str} {n : Nat} {i : Int} (h : S[n]? = some (.lst false (zs.map D.str))) (hz : zs.length = 4) (h0 : 0 ≤ i) (h1 : i < 4) : ∃ z, dIxA (.ref n) (.int i) S = .ok (.str z) S := by
  obtain ⟨j, rfl⟩ : ∃ j : Nat, i = (j : Int) := ⟨i.toNat, by omega⟩
  exact ⟨zs[j]'(by omega), dIx_lst h (atI_nat' rfl (by rw [List.getElem?_map, List.getElem?_eq_getElem (by omega)]; rfl))⟩
/-- one turn of the law -/
theorem turn_do {ns : List Int} {zs : List Str} {c1 : Cell} {V : List (Key × D)} {B : List (List Key × D)} {T : Store} {k : Nat} (hz : zs.length = 4) (hk : k < ns.length) (hV : Ints V) (lV : V.length < 1000) (lB : B.length < 1000)
    (hB : ∀ p ∈ B, ∃ w j : Int, p.1 = [.inl w, .inl j] ∧ j < (k : Int) - 3) (x6 x7 x8 x9 x10 x11 x12 x13 : Option D) :
    ∃ (V2 : List (Key × D)) (B2 : List (List Key × D)) (T2 : Store) (y6 y7 y8 y9 y10 y11 y12 y13 : Option D), (mSeq (mSet 6 (mCallD f_law_stream [] [(mBin dIxA (mVar 0) (mVar 5)), (mC (.int 6))]))
    (mSeq (mSet 7 (mBin dIxA (mVar 1) (mBin dMod (mBin dIxA (mVar 6) (mC (.int 0))) (mC (.int 4)))))
    (mSeq (mSet 8 (mTup [(mBin dIxA (mLst [(mC (.str ("put" : Str))), (mC (.str ("add" : Str)))]) (mBin dMod (mBin dIxA (mVar 6) (mC (.int 1))) (mC (.int 2)))), (mVar 7), (mCallD f_law_number [] [(mBin dIxA (mVar 6) (mC (.int 2))), (mBin dIxA (mVar 0) (mVar 5))])]))
    (mSeq (mIfS (mTest (mBin dEq (mBin dMod (mBin dIxA (mVar 6) (mC (.int 1))) (mC (.int 3))) (mC (.int 0)))) (mSeq (mSet 9 (mBin dIxA (mLst [(mGet2 (mVar 3) (mVar 7) (mC (.int 0))), (mCallD f_law_number [] [(mBin dIxA (mVar 6) (mC (.int 3))), (mBin dIxA (mVar 0) (mVar 5))])]) (mBin dMod (mBin dIxA (mVar 6) (mC (.int 3))) (mC (.int 2)))))
    (mSet 8 (mTup [(mC (.str ("swap" : Str))), (mVar 7), (mVar 9), (mCallD f_law_number [] [(mBin dIxA (mVar 6) (mC (.int 2))), (mBin dIxA (mVar 0) (mVar 5))])]))) mNil)
    (mSeq (mSet 10 (mCallD f_law_answer [] [(mVar 3), (mVar 8)]))
    (mSeq (mSet 11 (mMeth tab_do_3 "do" [] (mVar 4) [(mBin dSub (mBin dMod (mBin dIxA (mVar 6) (mC (.int 4))) (mC (.int 4))) (mC (.int 1))), (mBin dSub (mVar 5) (mC (.int 3))), (mVar 8)]))
    (mSeq (mIfS (mOrT (mNotT (mTruth (mCallD f_law_whole [] [(mVar 11)]))) (mTest (mBin dNe (mVar 11) (mVar 10)))) (mRet (mC (.bl false))) mNil)
    (mFor (miAny (mLst [(mVar 7), (mBin dIxA (mVar 1) (mBin dMod (mBin dIxA (mVar 6) (mC (.int 5))) (mC (.int 4))))])) (.one 12) (mSeq (mSet 13 (mMeth tab_value_of_1 "value_of" [] (mVar 4) [(mVar 12)]))
    (mIfS (mOrT (mNotT (mTruth (mCallD f_law_whole [] [(mVar 13)]))) (mTest (mBin dNe (mVar 13) (mGet2 (mVar 3) (mVar 12) (mC (.int 0)))))) (mRet (mC (.bl false))) mNil))))))))))
      [some (.ref 0), some (.ref 2), none, some (.ref 3), some (.ref 4), some (.int (k : Int)), x6, x7, x8, x9, x10, x11, x12, x13] (base (.lst true (ns.map D.int)) c1 (.lst false (zs.map D.str)) V B ++ T) = .nx [some (.ref 0), some (.ref 2), none, some (.ref 3), some (.ref 4), some (.int (k : Int)), y6, y7, y8, y9, y10, y11, y12, y13] (base (.lst true (ns.map D.int)) c1 (.lst false (zs.map D.str)) V2 B2 ++ T2) ∧
      Ints V2 ∧ V2.length ≤ V.length + 1 ∧ B2.length ≤ B.length + 1 ∧ ∀ p ∈ B2, ∃ w j : Int, p.1 = [.inl w, .inl j] ∧ j < (k : Int) + 1 - 3 := by
  generalize ec0 : Cell.lst true (ns.map D.int) = c0
  generalize ec2 : Cell.lst false (zs.map D.str) = c2
  have ixs : ∀ U, dIxA (.ref 0) (.int (k : Int)) (base c0 c1 c2 V B ++ U) = .ok (.int (ns.getD k 0)) (base c0 c1 c2 V B ++ U) := fun U => by
    refine dIx_lst (f := true) (xs := ns.map D.int) (by rw [ec0]; rfl) (atI_nat' rfl ?_)
    rw [List.getElem?_map, List.getElem?_eq_getElem hk]
    simp [hk]
  obtain ⟨xs, hx, hb, q6⟩ := stream_do (base c0 c1 c2 V B ++ T) (ns.getD k 0) 6 (by decide)
  have q6' : f_law_stream [.int (ns.getD k 0), .int 6] (base c0 c1 c2 V B ++ T) = .ok (.ref (base c0 c1 c2 V B ++ T).length) (base c0 c1 c2 V B ++ T ++ [.lst false (xs.map D.int)]) := q6
  have g6 := app_at (base c0 c1 c2 V B ++ T) (.lst false (xs.map D.int))
  have t6 : (mSet 6 (mCallD f_law_stream [] [(mBin dIxA (mVar 0) (mVar 5)), (mC (.int 6))])) [some (.ref 0), some (.ref 2), none, some (.ref 3), some (.ref 4), some (.int (k : Int)), x6, x7, x8, x9, x10, x11, x12, x13] (base c0 c1 c2 V B ++ T) = .nx [some (.ref 0), some (.ref 2), none, some (.ref 3), some (.ref 4), some (.int (k : Int)), some (.ref (base c0 c1 c2 V B ++ T).length), x7, x8, x9, x10, x11, x12, x13] (base c0 c1 c2 V B ++ T ++ [.lst false (xs.map D.int)]) := by
    simp_arith [ixs, q6']
  rw [seq_nx t6]
  generalize (base c0 c1 c2 V B ++ T).length = n6 at g6
  rw [List.append_assoc] at g6 ⊢
  generalize T ++ [Cell.lst false (xs.map D.int)] = T1 at g6
  have b0 := getD_of (P := fun x => 0 ≤ x ∧ x < 2147483647) hb (k := 0) (by omega)
  have b4 := getD_of (P := fun x => 0 ≤ x ∧ x < 2147483647) hb (k := 4) (by omega)
  have b5 := getD_of (P := fun x => 0 ≤ x ∧ x < 2147483647) hb (k := 5) (by omega)
  have i0 : dIxA (.ref n6) (.int 0) (base c0 c1 c2 V B ++ T1) = .ok (.int (xs.getD 0 0)) (base c0 c1 c2 V B ++ T1) := ix_ints g6 hx 0 (by decide)
  obtain ⟨z, iz⟩ := ix_names (S := base c0 c1 c2 V B ++ T1) (n := 2) (i := xs.getD 0 0 % 4) (by rw [← ec2]; rfl) hz (Int.emod_nonneg _ (by decide)) (Int.emod_lt_of_pos _ (by decide))
  have t7 : (mSet 7 (mBin dIxA (mVar 1) (mBin dMod (mBin dIxA (mVar 6) (mC (.int 0))) (mC (.int 4))))) [some (.ref 0), some (.ref 2), none, some (.ref 3), some (.ref 4), some (.int (k : Int)), some (.ref n6), x7, x8, x9, x10, x11, x12, x13] (base c0 c1 c2 V B ++ T1) = .nx [some (.ref 0), some (.ref 2), none, some (.ref 3), some (.ref 4), some (.int (k : Int)), some (.ref n6), some (.str z), x8, x9, x10, x11, x12, x13] (base c0 c1 c2 V B ++ T1) := by
    simp_arith [i0, iz]
  rw [seq_nx t7]
  obtain ⟨o, U, y9, t8, ho⟩ := order_do (S := base c0 c1 c2 V B ++ T1) (k := k) (ns := ns) z hV rfl g6 hx hb (fun U => by rw [List.append_assoc]; exact ixs _) x8 x9 x10 x11 x12 x13
  rw [seq_two t8]
  have g6' := app_get (T := U) g6
  rw [List.append_assoc] at g6' ⊢
  generalize T1 ++ U = T2 at g6'
  obtain ⟨b, hbv⟩ := ints_get hV o.key
  have qa : f_law_answer [.ref 3, o.d] (base c0 c1 c2 V B ++ T2) = .ok (.int (act o b).1) ((base c0 c1 c2 V B ++ T2).set 3 (.dk false (nxt V o.key (act o b).2))) := answer_do o rfl (Nat.lt_trans lV (by decide)) hbv
  have i4 : dIxA (.ref n6) (.int 4) ((base c0 c1 c2 V B ++ T2).set 3 (.dk false (nxt V o.key (act o b).2))) = .ok (.int (xs.getD 4 0)) _ := ix_ints (by
    rw [List.getElem?_set_ne ?_]
    · exact g6'
    · rintro rfl
      cases g6') hx 4 (by decide)
  have hn : lookD B [.inl (xs.getD 4 0 % 4 - 1), .inl ((k : Int) - 3)] = none := look_none fun p hp e => by
    obtain ⟨w, j, e2, hj⟩ := hB p hp
    rw [e2] at e
    simp only [List.cons.injEq, Sum.inl.injEq] at e
    omega
  have qd : f_C_Shelf_do [.ref 4, .int (xs.getD 4 0 % 4 - 1), .int ((k : Int) - 3), o.d] ((base c0 c1 c2 V B ++ T2).set 3 (.dk false (nxt V o.key (act o b).2))) = .ok (.int (act o b).1) (base c0 c1 c2 (nxt V o.key (act o b).2) (putD B [.inl (xs.getD 4 0 % 4 - 1), .inl ((k : Int) - 3)] (.int (act o b).1)) ++ T2) :=
    do_new (V := V) (s := 4) (n := 5) (m := 6) o rfl rfl (Nat.lt_trans lV (by decide)) hbv rfl (Nat.lt_trans lB (by decide)) hn
  have gm : callM tab_do_3 "do" (.ref 4) ((base c0 c1 c2 V B ++ T2).set 3 (.dk false (nxt V o.key (act o b).2))) = some f_C_Shelf_do := callM_obj (c := "Shelf") (fs := [("by_name", .ref 5), ("by_ask", .ref 6)]) rfl rfl rfl
  have hV2 := ints_nxt hV o.key (act o b).2
  have lV2 := nxt_len (V := V) o.key (act o b).2
  have lB2 := put_len (V := B) (k := [.inl (xs.getD 4 0 % 4 - 1), .inl ((k : Int) - 3)]) (v := .int (act o b).1)
  have hB2 : ∀ p ∈ putD B [.inl (xs.getD 4 0 % 4 - 1), .inl ((k : Int) - 3)] (.int (act o b).1), ∃ w j : Int, p.1 = [.inl w, .inl j] ∧ j < (k : Int) + 1 - 3 := fun p hp => by
    rcases put_mem hp with hp | rfl
    · obtain ⟨w, j, e, hj⟩ := hB p hp
      exact ⟨w, j, e, by omega⟩
    · exact ⟨_, _, rfl, by omega⟩
  have g6'' : (base c0 c1 c2 (nxt V o.key (act o b).2) (putD B [.inl (xs.getD 4 0 % 4 - 1), .inl ((k : Int) - 3)] (.int (act o b).1)) ++ T2)[n6]? = some (.lst false (xs.map D.int)) := by
    match n6, g6' with
    | 0, h => exact h
    | 1, h => exact h
    | 2, h => exact h
    | 3, h => cases h
    | 4, h => cases h
    | 5, h => cases h
    | 6, h => cases h
    | n + 7, h => exact h
  generalize (act o b).1 = a at qa qd lB2 hB2 g6''
  generalize nxt V o.key (act o b).2 = V2 at qa qd i4 gm hV2 lV2 g6''
  generalize putD B [.inl (xs.getD 4 0 % 4 - 1), .inl ((k : Int) - 3)] (.int a) = B2 at qd lB2 hB2 g6''
  generalize (base c0 c1 c2 V B ++ T2).set 3 (.dk false V2) = S3 at qa qd i4 gm
  have t10 : (mSet 10 (mCallD f_law_answer [] [(mVar 3), (mVar 8)])) [some (.ref 0), some (.ref 2), none, some (.ref 3), some (.ref 4), some (.int (k : Int)), some (.ref n6), some (.str z), some o.d, y9, x10, x11, x12, x13] (base c0 c1 c2 V B ++ T2) = .nx [some (.ref 0), some (.ref 2), none, some (.ref 3), some (.ref 4), some (.int (k : Int)), some (.ref n6), some (.str z), some o.d, y9, some (.int a), x11, x12, x13] S3 := by
    simp_arith [qa]
  rw [seq_nx t10]
  have sub : ∀ (i j : Int) S, dSub (.int i) (.int j) S = .ok (.int (i - j)) S := fun _ _ _ => rfl
  have t11 : (mSet 11 (mMeth tab_do_3 "do" [] (mVar 4) [(mBin dSub (mBin dMod (mBin dIxA (mVar 6) (mC (.int 4))) (mC (.int 4))) (mC (.int 1))), (mBin dSub (mVar 5) (mC (.int 3))), (mVar 8)])) [some (.ref 0), some (.ref 2), none, some (.ref 3), some (.ref 4), some (.int (k : Int)), some (.ref n6), some (.str z), some o.d, y9, some (.int a), x11, x12, x13] S3 = .nx [some (.ref 0), some (.ref 2), none, some (.ref 3), some (.ref 4), some (.int (k : Int)), some (.ref n6), some (.str z), some o.d, y9, some (.int a), some (.int a), x12, x13] (base c0 c1 c2 V2 B2 ++ T2) := by
    simp_arith [gm, i4, sub, qd]
  rw [seq_nx t11]
  have tc : (mIfS (mOrT (mNotT (mTruth (mCallD f_law_whole [] [(mVar 11)]))) (mTest (mBin dNe (mVar 11) (mVar 10)))) (mRet (mC (.bl false))) mNil) [some (.ref 0), some (.ref 2), none, some (.ref 3), some (.ref 4), some (.int (k : Int)), some (.ref n6), some (.str z), some o.d, y9, some (.int a), some (.int a), x12, x13] (base c0 c1 c2 V2 B2 ++ T2) = .nx [some (.ref 0), some (.ref 2), none, some (.ref 3), some (.ref 4), some (.int (k : Int)), some (.ref n6), some (.str z), some o.d, y9, some (.int a), some (.int a), x12, x13] (base c0 c1 c2 V2 B2 ++ T2) := by
    simp_arith [whole_do, beq_self_eq_true]
  rw [seq_nx tc]
  have i5 : dIxA (.ref n6) (.int 5) (base c0 c1 c2 V2 B2 ++ T2) = .ok (.int (xs.getD 5 0)) (base c0 c1 c2 V2 B2 ++ T2) := ix_ints g6'' hx 5 (by decide)
  obtain ⟨z2, iz2⟩ := ix_names (S := base c0 c1 c2 V2 B2 ++ T2) (n := 2) (i := xs.getD 5 0 % 4) (by rw [← ec2]; rfl) hz (Int.emod_nonneg _ (by decide)) (Int.emod_lt_of_pos _ (by decide))
  obtain ⟨_, T3, tf, y12, y13, rfl⟩ := for_grow (t := 12) (n := (base c0 c1 c2 V2 B2 ++ T2).length) (f := false) (xs := [.str z, .str z2]) (mi := miAny (mLst [(mVar 7), (mBin dIxA (mVar 1) (mBin dMod (mBin dIxA (mVar 6) (mC (.int 5))) (mC (.int 4))))])) (b := (mSeq (mSet 13 (mMeth tab_value_of_1 "value_of" [] (mVar 4) [(mVar 12)]))
    (mIfS (mOrT (mNotT (mTruth (mCallD f_law_whole [] [(mVar 13)]))) (mTest (mBin dNe (mVar 13) (mGet2 (mVar 3) (mVar 12) (mC (.int 0)))))) (mRet (mC (.bl false))) mNil)))
    (e := [some (.ref 0), some (.ref 2), none, some (.ref 3), some (.ref 4), some (.int (k : Int)), some (.ref n6), some (.str z), some o.d, y9, some (.int a), some (.int a), x12, x13]) (S := base c0 c1 c2 V2 B2 ++ T2) (S1 := base c0 c1 c2 V2 B2 ++ T2 ++ [.lst false [.str z, .str z2]])
    (fun e => ∃ x12 x13, e = [some (.ref 0), some (.ref 2), none, some (.ref 3), some (.ref 4), some (.int (k : Int)), some (.ref n6), some (.str z), some o.d, y9, some (.int a), some (.int a), x12, x13]) (miAny_lst (by simp_arith [i5, iz2]) (app_at _ _)) (app_at _ _) ⟨_, _, rfl⟩ (by
      rintro e W d hd ⟨x12, x13, rfl⟩
      obtain ⟨zd, rfl⟩ : ∃ zd, d = .str zd := by
        rcases List.mem_cons.mp hd with rfl | hd
        · exact ⟨_, rfl⟩
        · exact ⟨_, List.mem_singleton.mp hd⟩
      simp only [set_succ', set_zero']
      obtain ⟨y, hy⟩ := check_do (S := base c0 c1 c2 V2 B2 ++ T2 ++ [.lst false [.str z, .str z2]] ++ W) (B := .ref 6) hV2 rfl rfl rfl zd (some (.ref 0)) (some (.ref 2)) none (some (.int (k : Int))) (some (.ref n6)) (some (.str z)) (some o.d) y9 (some (.int a)) (some (.int a)) x13
      exact ⟨_, W, hy, _, _, rfl⟩)
  rw [tf]
  exact ⟨V2, B2, T2 ++ [.lst false [.str z, .str z2]] ++ T3, some (.ref n6), some (.str z), some o.d, y9, some (.int a), some (.int a), y12, y13, by simp only [List.append_assoc], hV2, lV2, lB2, hB2⟩
theorem pure_law : ∀ ns : List Int, ns.length ≤ 63 → ∃ S', f_law [.ref 0] [.lst true (ns.map D.int)] = .ok (.bl true) S' := by
  intro ns hns
  have s0 : ([Cell.lst true (ns.map D.int)] : Store)[0]? = some (.lst true (ns.map D.int)) := rfl
  have c0 : f_law_cell_at [.ref 0, .int 0] [.lst true (ns.map D.int)] = .ok (.int (ns.getD 0 0)) [.lst true (ns.map D.int)] := cell_at_do s0 0
  obtain ⟨xs, hx, hb, q0⟩ := stream_do [.lst true (ns.map D.int)] (ns.getD 0 0) 4 (by decide)
  have q0' : f_law_stream [.int (ns.getD 0 0), .int 4] [.lst true (ns.map D.int)] = .ok (.ref 1) [.lst true (ns.map D.int), .lst false (xs.map D.int)] := q0
  obtain ⟨nm, hnm⟩ := names_fun
  have q1 : mSet 1 (mLc (miAny (mCallD f_law_stream [] [(mCallD f_law_cell_at [] [(mVar 0), (mC (.int 0))]), (mC (.int 4))])) (.one 2) mYes (mCallD f_law_name [] [(mVar 2)]) [2]) [some (.ref 0), none, none, none, none, none, none, none, none, none, none, none, none, none] [.lst true (ns.map D.int)] = .nx [some (.ref 0), some (.ref 2), none, none, none, none, none, none, none, none, none, none, none, none] [.lst true (ns.map D.int), .lst false (xs.map D.int), .lst false ((xs.map nm).map D.str)] := by
    have z := lc_list (t := .one 2) (m := mCallD f_law_name [] [(mVar 2)]) (mi := (miAny (mCallD f_law_stream [] [(mCallD f_law_cell_at [] [(mVar 0), (mC (.int 0))]), (mC (.int 4))]))) (vs := [2]) (e := [some (.ref 0), none, none, none, none, none, none, none, none, none, none, none, none, none]) (S := [.lst true (ns.map D.int)]) (S1 := [.lst true (ns.map D.int), .lst false (xs.map D.int)]) (n := 1) (f := false) (ds := xs.map D.int)
      (fun d => match d with | .int i => .str (nm i) | d => d) (miAny_lst (by simp_arith [c0, q0']) rfl) rfl (by rw [List.length_map, hx]; decide) (fun S' d hd => by
        obtain ⟨i, hi, rfl⟩ := List.mem_map.mp hd
        have hh := hnm i (hb i hi).1 S'
        refine ⟨_, rfl, ?_⟩
        simp only [wipeD]
        simp_arith [hh])
    rw [mSet_eq, z, fl_ok, List.map_map, List.map_map]
    rfl
  have hz : (xs.map nm).length = 4 := by rw [List.length_map, hx]
  generalize xs.map nm = zs at q1 hz
  generalize Cell.lst false (xs.map D.int) = c1 at q1
  have q2 : mSet 3 mDkNew [some (.ref 0), some (.ref 2), none, none, none, none, none, none, none, none, none, none, none, none] [.lst true (ns.map D.int), c1, .lst false (zs.map D.str)] = .nx [some (.ref 0), some (.ref 2), none, some (.ref 3), none, none, none, none, none, none, none, none, none, none] [.lst true (ns.map D.int), c1, .lst false (zs.map D.str), .dk false []] := rfl
  have q3 : mSet 4 (mMake "Shelf" f_C_Shelf_init [] []) [some (.ref 0), some (.ref 2), none, some (.ref 3), none, none, none, none, none, none, none, none, none, none] [.lst true (ns.map D.int), c1, .lst false (zs.map D.str), .dk false []] = .nx [some (.ref 0), some (.ref 2), none, some (.ref 3), some (.ref 4), none, none, none, none, none, none, none, none, none] (base (.lst true (ns.map D.int)) c1 (.lst false (zs.map D.str)) [] [] ++ []) := by
    rw [mSet_eq, make_do]
    rfl
  have q4 : ∃ (V : List (Key × D)) (B : List (List Key × D)) (T : Store) (y5 y6 y7 y8 y9 y10 y11 y12 y13 : Option D), (mFor (miRng1 [(mCall dMin2 [(mCall dLen [(mVar 0)]), (mC (.int 60))])]) (.one 5) (mSeq (mSet 6 (mCallD f_law_stream [] [(mBin dIxA (mVar 0) (mVar 5)), (mC (.int 6))]))
    (mSeq (mSet 7 (mBin dIxA (mVar 1) (mBin dMod (mBin dIxA (mVar 6) (mC (.int 0))) (mC (.int 4)))))
    (mSeq (mSet 8 (mTup [(mBin dIxA (mLst [(mC (.str ("put" : Str))), (mC (.str ("add" : Str)))]) (mBin dMod (mBin dIxA (mVar 6) (mC (.int 1))) (mC (.int 2)))), (mVar 7), (mCallD f_law_number [] [(mBin dIxA (mVar 6) (mC (.int 2))), (mBin dIxA (mVar 0) (mVar 5))])]))
    (mSeq (mIfS (mTest (mBin dEq (mBin dMod (mBin dIxA (mVar 6) (mC (.int 1))) (mC (.int 3))) (mC (.int 0)))) (mSeq (mSet 9 (mBin dIxA (mLst [(mGet2 (mVar 3) (mVar 7) (mC (.int 0))), (mCallD f_law_number [] [(mBin dIxA (mVar 6) (mC (.int 3))), (mBin dIxA (mVar 0) (mVar 5))])]) (mBin dMod (mBin dIxA (mVar 6) (mC (.int 3))) (mC (.int 2)))))
    (mSet 8 (mTup [(mC (.str ("swap" : Str))), (mVar 7), (mVar 9), (mCallD f_law_number [] [(mBin dIxA (mVar 6) (mC (.int 2))), (mBin dIxA (mVar 0) (mVar 5))])]))) mNil)
    (mSeq (mSet 10 (mCallD f_law_answer [] [(mVar 3), (mVar 8)]))
    (mSeq (mSet 11 (mMeth tab_do_3 "do" [] (mVar 4) [(mBin dSub (mBin dMod (mBin dIxA (mVar 6) (mC (.int 4))) (mC (.int 4))) (mC (.int 1))), (mBin dSub (mVar 5) (mC (.int 3))), (mVar 8)]))
    (mSeq (mIfS (mOrT (mNotT (mTruth (mCallD f_law_whole [] [(mVar 11)]))) (mTest (mBin dNe (mVar 11) (mVar 10)))) (mRet (mC (.bl false))) mNil)
    (mFor (miAny (mLst [(mVar 7), (mBin dIxA (mVar 1) (mBin dMod (mBin dIxA (mVar 6) (mC (.int 5))) (mC (.int 4))))])) (.one 12) (mSeq (mSet 13 (mMeth tab_value_of_1 "value_of" [] (mVar 4) [(mVar 12)]))
    (mIfS (mOrT (mNotT (mTruth (mCallD f_law_whole [] [(mVar 13)]))) (mTest (mBin dNe (mVar 13) (mGet2 (mVar 3) (mVar 12) (mC (.int 0)))))) (mRet (mC (.bl false))) mNil))))))))))) [some (.ref 0), some (.ref 2), none, some (.ref 3), some (.ref 4), none, none, none, none, none, none, none, none, none] (base (.lst true (ns.map D.int)) c1 (.lst false (zs.map D.str)) [] [] ++ []) = .nx [some (.ref 0), some (.ref 2), none, some (.ref 3), some (.ref 4), y5, y6, y7, y8, y9, y10, y11, y12, y13] (base (.lst true (ns.map D.int)) c1 (.lst false (zs.map D.str)) V B ++ T) ∧ Ints V := by
    obtain ⟨n, hn, h60, hi⟩ : ∃ n : Nat, n ≤ ns.length ∧ n ≤ 60 ∧ miRng1 [(mCall dMin2 [(mCall dLen [(mVar 0)]), (mC (.int 60))])] [some (.ref 0), some (.ref 2), none, some (.ref 3), some (.ref 4), none, none, none, none, none, none, none, none, none] (base (.lst true (ns.map D.int)) c1 (.lst false (zs.map D.str)) [] [] ++ []) = .ok (.rng 0 n) (base (.lst true (ns.map D.int)) c1 (.lst false (zs.map D.str)) [] [] ++ []) := by
      have hL : dLen [.ref 0] (base (.lst true (ns.map D.int)) c1 (.lst false (zs.map D.str)) [] [] ++ []) = .ok (.int ((ns.map D.int).length : Int)) (base (.lst true (ns.map D.int)) c1 (.lst false (zs.map D.str)) [] [] ++ []) := dLen_lst (f := true) rfl
      rw [List.length_map] at hL
      have hM : ∀ S, dMin2 [.int (ns.length : Int), .int 60] S = .ok (.int (if (60 : Int) < (ns.length : Int) then 60 else (ns.length : Int))) S := fun S => rfl
      generalize base (.lst true (ns.map D.int)) c1 (.lst false (zs.map D.str)) [] [] ++ [] = S at hL
      by_cases g : (60 : Int) < (ns.length : Int)
      · refine ⟨60, by omega, by omega, ?_⟩
        rw [miRng1_eq (S1 := S) (j := 60) (by simp_arith [hL, hM, if_pos g]) ⟨by omega, by omega⟩]
        rfl
      · refine ⟨ns.length, by omega, by omega, ?_⟩
        rw [miRng1_eq (S1 := S) (j := (ns.length : Int)) (by simp_arith [hL, hM, if_neg g]) ⟨by omega, by omega⟩, Int.toNat_natCast]
    rw [mFor_eq, hi, fl_ok]
    refine loop_rule (n := n) (fun k e S => ∃ (V : List (Key × D)) (B : List (List Key × D)) (T : Store) (y5 y6 y7 y8 y9 y10 y11 y12 y13 : Option D), S = base (.lst true (ns.map D.int)) c1 (.lst false (zs.map D.str)) V B ++ T ∧ Ints V ∧ V.length ≤ k ∧ B.length ≤ k ∧ (∀ p ∈ B, ∃ w j : Int, p.1 = [.inl w, .inl j] ∧ j < (k : Int) - 3) ∧ e = [some (.ref 0), some (.ref 2), none, some (.ref 3), some (.ref 4), y5, y6, y7, y8, y9, y10, y11, y12, y13])
      (fun fl => ∃ (V : List (Key × D)) (B : List (List Key × D)) (T : Store) (y5 y6 y7 y8 y9 y10 y11 y12 y13 : Option D), fl = .nx [some (.ref 0), some (.ref 2), none, some (.ref 3), some (.ref 4), y5, y6, y7, y8, y9, y10, y11, y12, y13] (base (.lst true (ns.map D.int)) c1 (.lst false (zs.map D.str)) V B ++ T) ∧ Ints V) ?_ ?_ ?_
    · exact ⟨[], [], [], none, none, none, none, none, none, none, none, none, rfl, (fun p hp => by cases hp), Nat.le_refl _, Nat.le_refl _, (fun p hp => by cases hp), rfl⟩
    · rintro k e S hk ⟨V, B, T, y5, y6, y7, y8, y9, y10, y11, y12, y13, rfl, hV, lV, lB, hB, rfl⟩
      obtain ⟨V2, B2, T2, z6, z7, z8, z9, z10, z11, z12, z13, ht, hV2, lV2, lB2, hB2⟩ := turn_do (c1 := c1) (T := T) hz (Nat.lt_of_lt_of_le hk hn) hV (by omega) (by omega) hB y6 y7 y8 y9 y10 y11 y12 y13
      refine ⟨.int (k : Int), _, by rw [step_rng hk, Int.zero_add], rfl, ?_⟩
      simp only [set_succ', set_zero']
      rw [ht]
      exact ⟨V2, B2, T2, _, z6, z7, z8, z9, z10, z11, z12, z13, rfl, hV2, by omega, by omega, (fun p hp => by
        obtain ⟨w, j, e, hj⟩ := hB2 p hp
        exact ⟨w, j, e, by omega⟩), rfl⟩
    · rintro e S ⟨V, B, T, y5, y6, y7, y8, y9, y10, y11, y12, y13, rfl, hV, lV, lB, hB, rfl⟩
      exact ⟨step_rng_end, V, B, T, y5, y6, y7, y8, y9, y10, y11, y12, y13, rfl, hV⟩
  obtain ⟨V, B, T, y5, y6, y7, y8, y9, y10, y11, y12, y13, q4, hV⟩ := q4
  generalize eS : base (.lst true (ns.map D.int)) c1 (.lst false (zs.map D.str)) V B ++ T = S at q4
  have h2 : S[2]? = some (.lst false (zs.map D.str)) := by rw [← eS]; rfl
  have h3 : S[3]? = some (.dk false V) := by rw [← eS]; rfl
  have h4 : S[4]? = some (.obj "Shelf" [("by_name", .ref 5), ("by_ask", .ref 6)]) := by rw [← eS]; rfl
  have h5 : S[5]? = some (.dk false V) := by rw [← eS]; rfl
  have qa := dAdd_lst (app_get (T := [.lst false [.str ("e" : Str), .str ("eeeeeeee" : Str)]]) h2) (app_at S (.lst false [.str ("e" : Str), .str ("eeeeeeee" : Str)])) (by rw [List.length_map, hz]; decide)
  rw [List.append_assoc] at qa
  obtain ⟨_, T5, q5, y12', y13', rfl⟩ := for_grow (t := 12) (n := (S ++ [Cell.lst false [.str ("e" : Str), .str ("eeeeeeee" : Str)]]).length) (f := false) (xs := zs.map D.str ++ [.str ("e" : Str), .str ("eeeeeeee" : Str)]) (mi := miAny (mBin dAdd (mVar 1) (mLst [(mC (.str ("e" : Str))), (mC (.str ("eeeeeeee" : Str)))]))) (b := (mSeq (mSet 13 (mMeth tab_value_of_1 "value_of" [] (mVar 4) [(mVar 12)]))
    (mIfS (mOrT (mNotT (mTruth (mCallD f_law_whole [] [(mVar 13)]))) (mTest (mBin dNe (mVar 13) (mGet2 (mVar 3) (mVar 12) (mC (.int 0)))))) (mRet (mC (.bl false))) mNil)))
    (e := [some (.ref 0), some (.ref 2), none, some (.ref 3), some (.ref 4), y5, y6, y7, y8, y9, y10, y11, y12, y13]) (S := S) (S1 := S ++ ([.lst false [.str ("e" : Str), .str ("eeeeeeee" : Str)]] ++ [.lst false (zs.map D.str ++ [.str ("e" : Str), .str ("eeeeeeee" : Str)])]))
    (fun e => ∃ x12 x13, e = [some (.ref 0), some (.ref 2), none, some (.ref 3), some (.ref 4), y5, y6, y7, y8, y9, y10, y11, x12, x13]) (miAny_lst (by simp_arith [qa]) (by rw [← List.append_assoc]; exact app_at _ _)) (by rw [← List.append_assoc]; exact app_at _ _) ⟨_, _, rfl⟩ (by
      rintro e W d hd ⟨x12, x13, rfl⟩
      obtain ⟨zd, rfl⟩ : ∃ zd, d = .str zd := by
        rcases List.mem_append.mp hd with hd | hd
        · obtain ⟨z, _, rfl⟩ := List.mem_map.mp hd
          exact ⟨_, rfl⟩
        · rcases List.mem_cons.mp hd with rfl | hd
          · exact ⟨_, rfl⟩
          · exact ⟨_, List.mem_singleton.mp hd⟩
      simp only [set_succ', set_zero']
      obtain ⟨y, hy⟩ := check_do (S := S ++ ([.lst false [.str ("e" : Str), .str ("eeeeeeee" : Str)]] ++ [.lst false (zs.map D.str ++ [.str ("e" : Str), .str ("eeeeeeee" : Str)])]) ++ W) (B := .ref 6) hV (app_get (app_get h3)) (app_get (app_get h4)) (app_get (app_get h5)) zd (some (.ref 0)) (some (.ref 2)) none y5 y6 y7 y8 y9 y10 y11 x13
      exact ⟨_, W, hy, _, _, rfl⟩)
  refine ⟨S ++ ([.lst false [.str ("e" : Str), .str ("eeeeeeee" : Str)]] ++ [.lst false (zs.map D.str ++ [.str ("e" : Str), .str ("eeeeeeee" : Str)])]) ++ T5, ?_⟩
  unfold f_law b_law
  rw [run1]
  show outF (mSeq _ _ [some (.ref 0), none, none, none, none, none, none, none, none, none, none, none, none, none] _) = _
  rw [seq_nx q1, seq_nx q2, seq_nx q3, seq_nx q4, seq_nx q5]
  rfl
end Gn

namespace Gn
open PySem L2 M
theorem all_mk {l : PySem.W.OpenLaw} {w : World} {K : PySem.W.Frag} {h : Heap} {mg : Str → Option Value} {fa : Addr} (X : K.In h) (G : h.Ns mainGlobals mg) (hfa : mg "law" = some (.ref fa))
    {A_Shelf : Addr}
    {p_C_Shelf_init : Addr} {od_C_Shelf_init an_C_Shelf_init : Option Addr} {sl_C_Shelf_init : Array (Option Value)} {oc_C_Shelf_init kV_C_Shelf_init dc_C_Shelf_init pm_C_Shelf_init cd_C_Shelf_init ct_C_Shelf_init : Value}
    {p_law_name : Addr} {od_law_name an_law_name : Option Addr} {sl_law_name : Array (Option Value)} {oc_law_name kV_law_name dc_law_name pm_law_name cd_law_name ct_law_name : Value}
    {p_law_stream : Addr} {od_law_stream an_law_stream : Option Addr} {sl_law_stream : Array (Option Value)} {oc_law_stream kV_law_stream dc_law_stream pm_law_stream cd_law_stream ct_law_stream : Value}
    {p_law_answer : Addr} {od_law_answer an_law_answer : Option Addr} {sl_law_answer : Array (Option Value)} {oc_law_answer kV_law_answer dc_law_answer pm_law_answer cd_law_answer ct_law_answer : Value}
    {p_C_Shelf_value_of : Addr} {od_C_Shelf_value_of an_C_Shelf_value_of : Option Addr} {sl_C_Shelf_value_of : Array (Option Value)} {oc_C_Shelf_value_of kV_C_Shelf_value_of dc_C_Shelf_value_of pm_C_Shelf_value_of cd_C_Shelf_value_of ct_C_Shelf_value_of : Value}
    {p_C_Shelf_obey : Addr} {od_C_Shelf_obey an_C_Shelf_obey : Option Addr} {sl_C_Shelf_obey : Array (Option Value)} {oc_C_Shelf_obey kV_C_Shelf_obey dc_C_Shelf_obey pm_C_Shelf_obey cd_C_Shelf_obey ct_C_Shelf_obey : Value}
    {p_C_Shelf_do : Addr} {od_C_Shelf_do an_C_Shelf_do : Option Addr} {sl_C_Shelf_do : Array (Option Value)} {oc_C_Shelf_do kV_C_Shelf_do dc_C_Shelf_do pm_C_Shelf_do cd_C_Shelf_do ct_C_Shelf_do : Value}
    {p_law_number : Addr} {od_law_number an_law_number : Option Addr} {sl_law_number : Array (Option Value)} {oc_law_number kV_law_number dc_law_number pm_law_number cd_law_number ct_law_number : Value}
    {p_law_cell_at : Addr} {od_law_cell_at an_law_cell_at : Option Addr} {sl_law_cell_at : Array (Option Value)} {oc_law_cell_at kV_law_cell_at dc_law_cell_at pm_law_cell_at cd_law_cell_at ct_law_cell_at : Value}
    {p_law_whole : Addr} {od_law_whole an_law_whole : Option Addr} {sl_law_whole : Array (Option Value)} {oc_law_whole kV_law_whole dc_law_whole pm_law_whole cd_law_whole ct_law_whole : Value}
    {p_law : Addr} {od_law an_law : Option Addr} {sl_law : Array (Option Value)} {oc_law kV_law dc_law pm_law cd_law ct_law : Value}
    (aC_Shelf : PySem.W.nsIn K mainGlobals "Shelf" = some (some (.ref A_Shelf)))
    (pg_Shelf : PySem.W.plainGet K A_Shelf Str.empty = true)
    (hd_Shelf : PySem.W.hasDictIn K A_Shelf = true)
    (po_Shelf : PySem.W.plainOver K A_Shelf = true)
    (sa_Shelf : PySem.W.findIn K (.ref A_Shelf) "__setattr__" = some (some (.builtin "object.__setattr__")))
    (mk_Shelf : PySem.W.makesIn K A_Shelf = true)
    (kc_Shelf : PySem.W.keepIn K (.ref A_Shelf) = true)
    (na_Shelf_by_name : PySem.W.findIn K (.ref A_Shelf) "by_name" = some none)
    (na_Shelf_by_ask : PySem.W.findIn K (.ref A_Shelf) "by_ask" = some none)
    (l_C_Shelf_init : K.lookup p_C_Shelf_init = some ⟨oc_C_Shelf_init, od_C_Shelf_init, .func (PySem.W.fnOf "__init__" "Shelf.__init__" (defArgs s_C_Shelf_init) (defBody s_C_Shelf_init) (defScope s_C_Shelf_init) .none kV_C_Shelf_init dc_C_Shelf_init pm_C_Shelf_init an_C_Shelf_init cd_C_Shelf_init ct_C_Shelf_init), sl_C_Shelf_init⟩)
    (c_C_Shelf_init : PySem.W.codeIn K cd_C_Shelf_init "Shelf.__init__" = true)
    (k_C_Shelf_init : PySem.W.keepIn K (.ref p_C_Shelf_init) = true)
    (a_law_name : PySem.W.nsIn K mainGlobals "_law_name" = some (some (.ref p_law_name)))
    (l_law_name : K.lookup p_law_name = some ⟨oc_law_name, od_law_name, .func (PySem.W.fnOf "_law_name" "_law_name" (defArgs s_law_name) (defBody s_law_name) (defScope s_law_name) .none kV_law_name dc_law_name pm_law_name an_law_name cd_law_name ct_law_name), sl_law_name⟩)
    (c_law_name : PySem.W.codeIn K cd_law_name "_law_name" = true)
    (k_law_name : PySem.W.keepIn K (.ref p_law_name) = true)
    (a_law_stream : PySem.W.nsIn K mainGlobals "_law_stream" = some (some (.ref p_law_stream)))
    (l_law_stream : K.lookup p_law_stream = some ⟨oc_law_stream, od_law_stream, .func (PySem.W.fnOf "_law_stream" "_law_stream" (defArgs s_law_stream) (defBody s_law_stream) (defScope s_law_stream) .none kV_law_stream dc_law_stream pm_law_stream an_law_stream cd_law_stream ct_law_stream), sl_law_stream⟩)
    (c_law_stream : PySem.W.codeIn K cd_law_stream "_law_stream" = true)
    (k_law_stream : PySem.W.keepIn K (.ref p_law_stream) = true)
    (a_law_answer : PySem.W.nsIn K mainGlobals "_law_answer" = some (some (.ref p_law_answer)))
    (l_law_answer : K.lookup p_law_answer = some ⟨oc_law_answer, od_law_answer, .func (PySem.W.fnOf "_law_answer" "_law_answer" (defArgs s_law_answer) (defBody s_law_answer) (defScope s_law_answer) .none kV_law_answer dc_law_answer pm_law_answer an_law_answer cd_law_answer ct_law_answer), sl_law_answer⟩)
    (c_law_answer : PySem.W.codeIn K cd_law_answer "_law_answer" = true)
    (k_law_answer : PySem.W.keepIn K (.ref p_law_answer) = true)
    (l_C_Shelf_value_of : K.lookup p_C_Shelf_value_of = some ⟨oc_C_Shelf_value_of, od_C_Shelf_value_of, .func (PySem.W.fnOf "value_of" "Shelf.value_of" (defArgs s_C_Shelf_value_of) (defBody s_C_Shelf_value_of) (defScope s_C_Shelf_value_of) .none kV_C_Shelf_value_of dc_C_Shelf_value_of pm_C_Shelf_value_of an_C_Shelf_value_of cd_C_Shelf_value_of ct_C_Shelf_value_of), sl_C_Shelf_value_of⟩)
    (c_C_Shelf_value_of : PySem.W.codeIn K cd_C_Shelf_value_of "Shelf.value_of" = true)
    (k_C_Shelf_value_of : PySem.W.keepIn K (.ref p_C_Shelf_value_of) = true)
    (l_C_Shelf_obey : K.lookup p_C_Shelf_obey = some ⟨oc_C_Shelf_obey, od_C_Shelf_obey, .func (PySem.W.fnOf "obey" "Shelf.obey" (defArgs s_C_Shelf_obey) (defBody s_C_Shelf_obey) (defScope s_C_Shelf_obey) .none kV_C_Shelf_obey dc_C_Shelf_obey pm_C_Shelf_obey an_C_Shelf_obey cd_C_Shelf_obey ct_C_Shelf_obey), sl_C_Shelf_obey⟩)
    (c_C_Shelf_obey : PySem.W.codeIn K cd_C_Shelf_obey "Shelf.obey" = true)
    (k_C_Shelf_obey : PySem.W.keepIn K (.ref p_C_Shelf_obey) = true)
    (l_C_Shelf_do : K.lookup p_C_Shelf_do = some ⟨oc_C_Shelf_do, od_C_Shelf_do, .func (PySem.W.fnOf "do" "Shelf.do" (defArgs s_C_Shelf_do) (defBody s_C_Shelf_do) (defScope s_C_Shelf_do) .none kV_C_Shelf_do dc_C_Shelf_do pm_C_Shelf_do an_C_Shelf_do cd_C_Shelf_do ct_C_Shelf_do), sl_C_Shelf_do⟩)
    (c_C_Shelf_do : PySem.W.codeIn K cd_C_Shelf_do "Shelf.do" = true)
    (k_C_Shelf_do : PySem.W.keepIn K (.ref p_C_Shelf_do) = true)
    (a_law_number : PySem.W.nsIn K mainGlobals "_law_number" = some (some (.ref p_law_number)))
    (l_law_number : K.lookup p_law_number = some ⟨oc_law_number, od_law_number, .func (PySem.W.fnOf "_law_number" "_law_number" (defArgs s_law_number) (defBody s_law_number) (defScope s_law_number) .none kV_law_number dc_law_number pm_law_number an_law_number cd_law_number ct_law_number), sl_law_number⟩)
    (c_law_number : PySem.W.codeIn K cd_law_number "_law_number" = true)
    (k_law_number : PySem.W.keepIn K (.ref p_law_number) = true)
    (a_law_cell_at : PySem.W.nsIn K mainGlobals "_law_cell_at" = some (some (.ref p_law_cell_at)))
    (l_law_cell_at : K.lookup p_law_cell_at = some ⟨oc_law_cell_at, od_law_cell_at, .func (PySem.W.fnOf "_law_cell_at" "_law_cell_at" (defArgs s_law_cell_at) (defBody s_law_cell_at) (defScope s_law_cell_at) .none kV_law_cell_at dc_law_cell_at pm_law_cell_at an_law_cell_at cd_law_cell_at ct_law_cell_at), sl_law_cell_at⟩)
    (c_law_cell_at : PySem.W.codeIn K cd_law_cell_at "_law_cell_at" = true)
    (k_law_cell_at : PySem.W.keepIn K (.ref p_law_cell_at) = true)
    (a_law_whole : PySem.W.nsIn K mainGlobals "_law_whole" = some (some (.ref p_law_whole)))
    (l_law_whole : K.lookup p_law_whole = some ⟨oc_law_whole, od_law_whole, .func (PySem.W.fnOf "_law_whole" "_law_whole" (defArgs s_law_whole) (defBody s_law_whole) (defScope s_law_whole) .none kV_law_whole dc_law_whole pm_law_whole an_law_whole cd_law_whole ct_law_whole), sl_law_whole⟩)
    (c_law_whole : PySem.W.codeIn K cd_law_whole "_law_whole" = true)
    (k_law_whole : PySem.W.keepIn K (.ref p_law_whole) = true)
    (a_law : PySem.W.nsIn K mainGlobals "law" = some (some (.ref p_law)))
    (l_law : K.lookup p_law = some ⟨oc_law, od_law, .func (PySem.W.fnOf "law" "law" (defArgs s_law) (defBody s_law) (defScope s_law) .none kV_law dc_law pm_law an_law cd_law ct_law), sl_law⟩)
    (c_law : PySem.W.codeIn K cd_law "law" = true)
    (k_law : PySem.W.keepIn K (.ref p_law) = true)
    (m_Shelf_init : PySem.W.findIn K (.ref A_Shelf) "__init__" = some (some (.ref p_C_Shelf_init)))
    (m_Shelf_do : PySem.W.findIn K (.ref A_Shelf) "do" = some (some (.ref p_C_Shelf_do)))
    (m_Shelf_obey : PySem.W.findIn K (.ref A_Shelf) "obey" = some (some (.ref p_C_Shelf_obey)))
    (m_Shelf_value_of : PySem.W.findIn K (.ref A_Shelf) "value_of" = some (some (.ref p_C_Shelf_value_of)))
    (i_C_Shelf_init : PySem.W.isFn K (.ref p_C_Shelf_init) = true)
    (i_C_Shelf_value_of : PySem.W.isFn K (.ref p_C_Shelf_value_of) = true)
    (i_C_Shelf_obey : PySem.W.isFn K (.ref p_C_Shelf_obey) = true)
    (i_C_Shelf_do : PySem.W.isFn K (.ref p_C_Shelf_do) = true)
    (z_bool : PySem.W.nsIn K mainGlobals "bool" = some none)
    (z_int : PySem.W.nsIn K mainGlobals "int" = some none)
    (z_isinstance : PySem.W.nsIn K mainGlobals "isinstance" = some none)
    (z_len : PySem.W.nsIn K mainGlobals "len" = some none)
    (z_min : PySem.W.nsIn K mainGlobals "min" = some none)
    (z_range : PySem.W.nsIn K mainGlobals "range" = some none) :
    ∃ fd : FuncData, (∀ (s : Shared) (v : Value), BindsTo s fd ⟨[v], []⟩ [("_law_script", v)]) ∧ ∀ base : Heap, K.In base → base.Ns mainGlobals mg → FnOk l.prog w K mg base (L2.CX l.prog w) 4 fa fd ["_law_script"] (spL K) := by
  have e := hfa.symm.trans (PySem.W.mg_of X G a_law)
  cases e
  have g_Shelf : mg "Shelf" = some (.ref A_Shelf) := PySem.W.mg_of X G aC_Shelf
  have ca_Shelf : caOf mg "Shelf" = A_Shelf := caOf_eq g_Shelf
  have cl_Shelf : Cls K (caOf mg "Shelf") := by rw [ca_Shelf]; exact ⟨pg_Shelf, hd_Shelf, po_Shelf, sa_Shelf⟩
  have ff_by_ask : ∀ c ∈ [("Shelf" : Str)], Cls K (caOf mg c) ∧ NoAttr K (caOf mg c) "by_ask" := by
    intro c hc
    simp only [List.mem_cons, List.mem_nil_iff, or_false] at hc
    subst hc
    exact ⟨cl_Shelf, by rw [ca_Shelf]; exact na_Shelf_by_ask⟩
  have ff_by_name : ∀ c ∈ [("Shelf" : Str)], Cls K (caOf mg c) ∧ NoAttr K (caOf mg c) "by_name" := by
    intro c hc
    simp only [List.mem_cons, List.mem_nil_iff, or_false] at hc
    subst hc
    exact ⟨cl_Shelf, by rw [ca_Shelf]; exact na_Shelf_by_name⟩
  have T : Txt K mg (caOf mg) := { n_bool := PySem.W.mg_none_of X G z_bool, n_int := PySem.W.mg_none_of X G z_int, n_isinstance := PySem.W.mg_none_of X G z_isinstance, n_len := PySem.W.mg_none_of X G z_len, n_min := PySem.W.mg_none_of X G z_min, n_range := PySem.W.mg_none_of X G z_range, f_by_ask := ff_by_ask, f_by_name := ff_by_name }
  have F_C_Shelf_init := fs_mk (st := s_C_Shelf_init) l_C_Shelf_init c_C_Shelf_init k_C_Shelf_init
  have B_C_Shelf_init := FunD.bindsN F_C_Shelf_init (ps := ["self"]) fun _ _ _ _ _ _ us hl => match us, hl with | [_], _ => rfl
  have F_law_name := fs_mk (st := s_law_name) l_law_name c_law_name k_law_name
  have B_law_name := FunD.bindsN F_law_name (ps := ["_law_number_here"]) fun _ _ _ _ _ _ us hl => match us, hl with | [_], _ => rfl
  have F_law_stream := fs_mk (st := s_law_stream) l_law_stream c_law_stream k_law_stream
  have B_law_stream := FunD.bindsN F_law_stream (ps := ["_law_cell", "_law_size"]) fun _ _ _ _ _ _ us hl => match us, hl with | [_, _], _ => rfl
  have F_law_answer := fs_mk (st := s_law_answer) l_law_answer c_law_answer k_law_answer
  have B_law_answer := FunD.bindsN F_law_answer (ps := ["_law_values", "_law_order"]) fun _ _ _ _ _ _ us hl => match us, hl with | [_, _], _ => rfl
  have F_C_Shelf_value_of := fs_mk (st := s_C_Shelf_value_of) l_C_Shelf_value_of c_C_Shelf_value_of k_C_Shelf_value_of
  have B_C_Shelf_value_of := FunD.bindsN F_C_Shelf_value_of (ps := ["self", "name"]) fun _ _ _ _ _ _ us hl => match us, hl with | [_, _], _ => rfl
  have F_C_Shelf_obey := fs_mk (st := s_C_Shelf_obey) l_C_Shelf_obey c_C_Shelf_obey k_C_Shelf_obey
  have B_C_Shelf_obey := FunD.bindsN F_C_Shelf_obey (ps := ["self", "order"]) fun _ _ _ _ _ _ us hl => match us, hl with | [_, _], _ => rfl
  have F_C_Shelf_do := fs_mk (st := s_C_Shelf_do) l_C_Shelf_do c_C_Shelf_do k_C_Shelf_do
  have B_C_Shelf_do := FunD.bindsN F_C_Shelf_do (ps := ["self", "who", "number", "order"]) fun _ _ _ _ _ _ us hl => match us, hl with | [_, _, _, _], _ => rfl
  have F_law_number := fs_mk (st := s_law_number) l_law_number c_law_number k_law_number
  have B_law_number := FunD.bindsN F_law_number (ps := ["_law_number_here", "_law_cell"]) fun _ _ _ _ _ _ us hl => match us, hl with | [_, _], _ => rfl
  have F_law_cell_at := fs_mk (st := s_law_cell_at) l_law_cell_at c_law_cell_at k_law_cell_at
  have B_law_cell_at := FunD.bindsN F_law_cell_at (ps := ["_law_script", "_law_k"]) fun _ _ _ _ _ _ us hl => match us, hl with | [_, _], _ => rfl
  have F_law_whole := fs_mk (st := s_law_whole) l_law_whole c_law_whole k_law_whole
  have B_law_whole := FunD.bindsN F_law_whole (ps := ["_law_found"]) fun _ _ _ _ _ _ us hl => match us, hl with | [_], _ => rfl
  have F_law := fs_mk (st := s_law) l_law c_law k_law
  have B_law := FunD.bindsN F_law (ps := ["_law_script"]) fun _ _ _ _ _ _ us hl => match us, hl with | [_], _ => rfl
  refine ⟨PySem.W.fnOf "law" "law" (defArgs s_law) (defBody s_law) (defScope s_law) .none kV_law dc_law pm_law an_law cd_law ct_law, fun s v => .of_eq rfl, fun base _ _ => ?_⟩
  have O_C_Shelf_init := ok_C_Shelf_init (P := l.prog) (w := w) (base := base) F_C_Shelf_init T 
  have O_law_name := ok_law_name (P := l.prog) (w := w) (base := base) F_law_name T 
  have G_law_name : GDef l.prog w K mg base (caOf mg) 1 "_law_name" f_law_name [] := gdef_all O_law_name (PySem.W.mg_of X G a_law_name) k_law_name B_law_name
  have O_law_stream := ok_law_stream (P := l.prog) (w := w) (base := base) F_law_stream T 
  have G_law_stream : GDef l.prog w K mg base (caOf mg) 1 "_law_stream" f_law_stream [] := gdef_all O_law_stream (PySem.W.mg_of X G a_law_stream) k_law_stream B_law_stream
  have O_law_answer := ok_law_answer (P := l.prog) (w := w) (base := base) F_law_answer T 
  have G_law_answer : GDef l.prog w K mg base (caOf mg) 1 "_law_answer" f_law_answer [] := gdef_all O_law_answer (PySem.W.mg_of X G a_law_answer) k_law_answer B_law_answer
  have O_C_Shelf_value_of := ok_C_Shelf_value_of (P := l.prog) (w := w) (base := base) F_C_Shelf_value_of T 
  have Tab_value_of_1 : ∀ c f, tab_value_of_1.lookup c = some f → GMeth l.prog w K mg base (caOf mg) 1 c "value_of" f [] := tab_cons (gmeth_mono (gmeth_all O_C_Shelf_value_of cl_Shelf (by rw [ca_Shelf]; exact ⟨m_Shelf_value_of, i_C_Shelf_value_of, k_C_Shelf_value_of⟩) B_C_Shelf_value_of) (by decide)) (tab_nil)
  have O_C_Shelf_obey := ok_C_Shelf_obey (P := l.prog) (w := w) (base := base) F_C_Shelf_obey T Tab_value_of_1
  have Tab_obey_1 : ∀ c f, tab_obey_1.lookup c = some f → GMeth l.prog w K mg base (caOf mg) 2 c "obey" f [] := tab_cons (gmeth_mono (gmeth_all O_C_Shelf_obey cl_Shelf (by rw [ca_Shelf]; exact ⟨m_Shelf_obey, i_C_Shelf_obey, k_C_Shelf_obey⟩) B_C_Shelf_obey) (by decide)) (tab_nil)
  have O_C_Shelf_do := ok_C_Shelf_do (P := l.prog) (w := w) (base := base) F_C_Shelf_do T Tab_obey_1
  have O_law_number := ok_law_number (P := l.prog) (w := w) (base := base) F_law_number T 
  have G_law_number : GDef l.prog w K mg base (caOf mg) 1 "_law_number" f_law_number [] := gdef_all O_law_number (PySem.W.mg_of X G a_law_number) k_law_number B_law_number
  have O_law_cell_at := ok_law_cell_at (P := l.prog) (w := w) (base := base) F_law_cell_at T 
  have G_law_cell_at : GDef l.prog w K mg base (caOf mg) 1 "_law_cell_at" f_law_cell_at [] := gdef_all O_law_cell_at (PySem.W.mg_of X G a_law_cell_at) k_law_cell_at B_law_cell_at
  have O_law_whole := ok_law_whole (P := l.prog) (w := w) (base := base) F_law_whole T 
  have G_law_whole : GDef l.prog w K mg base (caOf mg) 1 "_law_whole" f_law_whole [] := gdef_all O_law_whole (PySem.W.mg_of X G a_law_whole) k_law_whole B_law_whole
  have M_Shelf : GMake l.prog w K mg base (caOf mg) 1 "Shelf" f_C_Shelf_init [] := gmake_all O_C_Shelf_init (by rw [ca_Shelf]; exact g_Shelf) (by rw [ca_Shelf]; exact ⟨mk_Shelf, m_Shelf_init, i_C_Shelf_init, kc_Shelf⟩) B_C_Shelf_init
  have Tab_do_3 : ∀ c f, tab_do_3.lookup c = some f → GMeth l.prog w K mg base (caOf mg) 3 c "do" f [] := tab_cons (gmeth_mono (gmeth_all O_C_Shelf_do cl_Shelf (by rw [ca_Shelf]; exact ⟨m_Shelf_do, i_C_Shelf_do, k_C_Shelf_do⟩) B_C_Shelf_do) (by decide)) (tab_nil)
  exact (ok_law (P := l.prog) (w := w) (base := base) F_law T G_law_answer G_law_cell_at G_law_name G_law_number G_law_stream G_law_whole M_Shelf Tab_do_3 Tab_value_of_1).imp (law_imp pure_law)
end Gn
open PySem PySem.W PyProof.Rows in
set_option maxRecDepth 100000 in
set_option maxHeartbeats 0 in
theorem PySem.Challenge.cw_chairvote_k11_orders_holds : PySem.Challenge.rw_chairvote_k11_orders.Holds := by
  w_on; o_law; k_head; (case hw => w_witness2)
  k_fill
  refine M.walkL (l := PySem.Challenge.rw_chairvote_k11_orders) (k := 4) ⟨rfl, by decide, by decide⟩ rfl rfl (fun w h Y => PySem.W.kIn_of Y) ?F
  case F =>
    intro w mg fa h KX G hmg
    refine' Gn.all_mk KX G hmg ?aC_Shelf ?pg_Shelf ?hd_Shelf ?po_Shelf ?sa_Shelf ?mk_Shelf ?kc_Shelf ?na_Shelf_by_name ?na_Shelf_by_ask ?l_C_Shelf_init ?c_C_Shelf_init ?k_C_Shelf_init ?a_law_name ?l_law_name ?c_law_name ?k_law_name ?a_law_stream ?l_law_stream ?c_law_stream ?k_law_stream ?a_law_answer ?l_law_answer ?c_law_answer ?k_law_answer ?l_C_Shelf_value_of ?c_C_Shelf_value_of ?k_C_Shelf_value_of ?l_C_Shelf_obey ?c_C_Shelf_obey ?k_C_Shelf_obey ?l_C_Shelf_do ?c_C_Shelf_do ?k_C_Shelf_do ?a_law_number ?l_law_number ?c_law_number ?k_law_number ?a_law_cell_at ?l_law_cell_at ?c_law_cell_at ?k_law_cell_at ?a_law_whole ?l_law_whole ?c_law_whole ?k_law_whole ?a_law ?l_law ?c_law ?k_law ?m_Shelf_init ?m_Shelf_do ?m_Shelf_obey ?m_Shelf_value_of ?i_C_Shelf_init ?i_C_Shelf_value_of ?i_C_Shelf_obey ?i_C_Shelf_do ?z_bool ?z_int ?z_isinstance ?z_len ?z_min ?z_range
    (case aC_Shelf => k_is)
    (case m_Shelf_init => k_is)
    (case m_Shelf_do => k_is)
    (case m_Shelf_obey => k_is)
    (case m_Shelf_value_of => k_is)
    (case pg_Shelf => k_is)
    (case hd_Shelf => k_is)
    (case po_Shelf => k_is)
    (case sa_Shelf => k_is)
    (case mk_Shelf => k_is)
    (case kc_Shelf => k_is)
    (case na_Shelf_by_name => k_is)
    (case na_Shelf_by_ask => k_is)
    (case l_C_Shelf_init => k_is)
    (case c_C_Shelf_init => k_is)
    (case k_C_Shelf_init => k_is)
    (case a_law_name => k_is)
    (case l_law_name => k_is)
    (case c_law_name => k_is)
    (case k_law_name => k_is)
    (case a_law_stream => k_is)
    (case l_law_stream => k_is)
    (case c_law_stream => k_is)
    (case k_law_stream => k_is)
    (case a_law_answer => k_is)
    (case l_law_answer => k_is)
    (case c_law_answer => k_is)
    (case k_law_answer => k_is)
    (case l_C_Shelf_value_of => k_is)
    (case c_C_Shelf_value_of => k_is)
    (case k_C_Shelf_value_of => k_is)
    (case l_C_Shelf_obey => k_is)
    (case c_C_Shelf_obey => k_is)
    (case k_C_Shelf_obey => k_is)
    (case l_C_Shelf_do => k_is)
    (case c_C_Shelf_do => k_is)
    (case k_C_Shelf_do => k_is)
    (case a_law_number => k_is)
    (case l_law_number => k_is)
    (case c_law_number => k_is)
    (case k_law_number => k_is)
    (case a_law_cell_at => k_is)
    (case l_law_cell_at => k_is)
    (case c_law_cell_at => k_is)
    (case k_law_cell_at => k_is)
    (case a_law_whole => k_is)
    (case l_law_whole => k_is)
    (case c_law_whole => k_is)
    (case k_law_whole => k_is)
    (case a_law => k_is)
    (case l_law => k_is)
    (case c_law => k_is)
    (case k_law => k_is)
    (case i_C_Shelf_init => k_is)
    (case i_C_Shelf_value_of => k_is)
    (case i_C_Shelf_obey => k_is)
    (case i_C_Shelf_do => k_is)
    (case z_bool => k_is)
    (case z_int => k_is)
    (case z_isinstance => k_is)
    (case z_len => k_is)
    (case z_min => k_is)
    (case z_range => k_is)
