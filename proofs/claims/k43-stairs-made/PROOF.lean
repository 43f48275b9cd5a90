import PyProof.Rows.All
import HandS.ForMost
import HandS.Exc
import HandS.CallSlots
import HandS.Property
import HandS.Defaults
import HandS.HeadEnd
import HandS.HeadWalk
import HandS.Zip
import HandS.Comp
import HandS.WordsExc
import HandS.Wide
import HandS.WideBits
import HandS.Deep
import HandS.SortInts
import HandS.RaiseMore
import HandS.IsInst
import HandS.WordsDict
import PyProof.ReprRoads
import HandS.OwnEq
import HandS.Codes
import HandS.SetFor
import HandS.Strs
import KE.KStateDown
import HandS.Head0
import HandS.Head1
import HandS.Head2
import HandS.HeadHook1
import HandS.HeadHook2
import PyProof.InstEq
import HandS.Style
import HandS.ListEq
import PyProof.Rows.ReprShort
import PySem.Challenge.RW_whosepace_k43_stairs_made
section
set_option Elab.async false
set_option linter.all false
set_option maxRecDepth 100000
/-! WpA: data as trees, what stands for it in the heap, owned and shared parts. -/
namespace Wp
open PySem PySem.Spec PyProof.Rows L2

inductive D where
  | non | bl (b : Bool) | int (i : Int) | str (x : Str)
  | tup (xs : List D) | lst (xs : List D) | dict (ks : List Key) (vs : List D) | obj (c : Nat) (fs : List Str) (vs : List D)
  deriving Inhabited

inductive Val where
  | sh (d : D) | ol (xs : List Val) | ot (xs : List Val) | od (ks : List Key) (xs : List Val) | oi (c : Nat) (fs : List Str) (xs : List Val)
  deriving Inhabited

mutual
def Val.d : Val → D
  | .sh d => d
  | .ol xs => .lst (Val.ds xs)
  | .ot xs => .tup (Val.ds xs)
  | .od ks xs => .dict ks (Val.ds xs)
  | .oi c fs xs => .obj c fs (Val.ds xs)
def Val.ds : List Val → List D
  | [] => []
  | x :: xs => x.d :: Val.ds xs
end
theorem Val.ds_map : ∀ xs : List Val, Val.ds xs = xs.map Val.d
  | [] => by simp [Val.ds]
  | x :: xs => by simp [Val.ds, Val.ds_map xs]

/-- the written part, the classes' addresses -/
structure Gc where
  K : PySem.W.Frag
  C : Nat → Addr

mutual
def RepD (G : Gc) (H : Hp) : D → V → Prop
  | .non, v => v = .non
  | .bl b, v => v = .bl b
  | .int i, v => v = .int i
  | .str x, v => v = .str x
  | .tup xs, v => ∃ a vs, v = .ref a ∧ SqT G.K H a vs ∧ RepDs G H xs vs
  | .lst xs, v => ∃ a vs, v = .ref a ∧ SqL G.K H a vs ∧ RepDs G H xs vs
  | .dict ks xs, v => ∃ a vs, v = .ref a ∧ Rd H a (.dK (ks.zip vs)) ∧ ks.length = vs.length ∧ RepDs G H xs vs
  | .obj c fs xs, v => ∃ a dx vs, v = .ref a ∧ H a = some (.ins (G.C c) dx (fs.zip vs)) ∧ fs.length = vs.length ∧ RepDs G H xs vs
def RepDs (G : Gc) (H : Hp) : List D → List V → Prop
  | [], vs => vs = []
  | x :: xs, vs => ∃ v ws, vs = v :: ws ∧ RepD G H x v ∧ RepDs G H xs ws
end

def Sub (H H' : Hp) : Prop := ∀ b o, H b = some o → H' b = some o
/-- as Sub, but a dict may be locked -/
def Le (H H' : Hp) : Prop := ∀ b o, H b = some o → H' b = some o ∨ ∃ ob kvs, o = .dK kvs ∧ H' b = some (.frz ob o)
theorem Sub.le {H H' : Hp} (s : Sub H H') : Le H H' := fun b o e => .inl (s b o e)
theorem Sub.refl {H : Hp} : Sub H H := fun _ _ e => e
theorem Sub.trans {H H' H'' : Hp} (s : Sub H H') (t : Sub H' H'') : Sub H H'' := fun b o e => t b o (s b o e)
theorem Le.refl {H : Hp} : Le H H := Sub.refl.le
theorem Le.sub {H H' H'' : Hp} (s : Sub H H') (t : Le H' H'') : Le H H'' := fun b o e => t b o (s b o e)
theorem Le.keep {H H' : Hp} (s : Le H H') {a : Addr} {o : HO} (e : H a = some o) (nd : ∀ kvs, o ≠ .dK kvs) : H' a = some o := by
  rcases s a o e with h | ⟨ob, kvs, h, _⟩
  · exact h
  · exact absurd h (nd kvs)
theorem Le.none {H H' : Hp} (s : Le H H') {a : Addr} (e : H' a = none) : H a = none := by
  cases h : H a with
  | none => rfl
  | some o => rcases s a o h with h | ⟨_, _, _, h⟩ <;> rw [e] at h <;> cases h

theorem SqL.le {K : PySem.W.Frag} {H H' : Hp} {a : Addr} {xs : List V} (h : SqL K H a xs) (s : Le H H') : SqL K H' a xs := by
  rcases h with (h | ⟨o, h⟩) | h
  · exact .inl (.inl (s.keep h (fun _ q => nomatch q)))
  · exact .inl (.inr ⟨o, s.keep h (fun _ q => nomatch q)⟩)
  · exact .inr h
theorem SqT.le {K : PySem.W.Frag} {H H' : Hp} {a : Addr} {xs : List V} (h : SqT K H a xs) (s : Le H H') : SqT K H' a xs := by
  rcases h with (h | ⟨o, h⟩) | h
  · exact .inl (.inl (s.keep h (fun _ q => nomatch q)))
  · exact .inl (.inr ⟨o, s.keep h (fun _ q => nomatch q)⟩)
  · exact .inr h
theorem Rd.le {H H' : Hp} {a : Addr} {kvs : List (Key × V)} (h : Rd H a (.dK kvs)) (s : Le H H') : Rd H' a (.dK kvs) := by
  rcases h with h | ⟨o, h⟩
  · rcases s a _ h with h | ⟨ob, _, _, h⟩
    · exact .inl h
    · exact .inr ⟨ob, h⟩
  · exact .inr ⟨o, s.keep h (fun _ q => nomatch q)⟩

section
variable {G : Gc} {H H' : Hp}
mutual
theorem RepD.le : ∀ {d : D} {v : V}, RepD G H d v → Le H H' → RepD G H' d v
  | .non, _, h, _ => by simpa only [RepD] using h
  | .bl _, _, h, _ => by simpa only [RepD] using h
  | .int _, _, h, _ => by simpa only [RepD] using h
  | .str _, _, h, _ => by simpa only [RepD] using h
  | .tup xs, v, h, s => by
    simp only [RepD] at h ⊢
    obtain ⟨a, vs, e, q, r⟩ := h
    exact ⟨a, vs, e, SqT.le q s, RepDs.le r s⟩
  | .lst xs, v, h, s => by
    simp only [RepD] at h ⊢
    obtain ⟨a, vs, e, q, r⟩ := h
    exact ⟨a, vs, e, SqL.le q s, RepDs.le r s⟩
  | .dict ks xs, v, h, s => by
    simp only [RepD] at h ⊢
    obtain ⟨a, vs, e, q, l, r⟩ := h
    exact ⟨a, vs, e, Rd.le q s, l, RepDs.le r s⟩
  | .obj c fs xs, v, h, s => by
    simp only [RepD] at h ⊢
    obtain ⟨a, dx, vs, e, q, l, r⟩ := h
    exact ⟨a, dx, vs, e, s.keep q (fun _ z => nomatch z), l, RepDs.le r s⟩
theorem RepDs.le : ∀ {ds : List D} {vs : List V}, RepDs G H ds vs → Le H H' → RepDs G H' ds vs
  | [], _, h, _ => by simpa only [RepDs] using h
  | x :: xs, vs, h, s => by
    simp only [RepDs] at h ⊢
    obtain ⟨v, ws, e, p, q⟩ := h
    exact ⟨v, ws, e, RepD.le p s, RepDs.le q s⟩
end
theorem RepDs.nil_iff {vs : List V} : RepDs G H [] vs ↔ vs = [] := by simp only [RepDs]
theorem RepDs.cons {d : D} {ds : List D} {v : V} {vs : List V} (h : RepD G H d v) (t : RepDs G H ds vs) : RepDs G H (d :: ds) (v :: vs) := by
  simp only [RepDs]
  exact ⟨v, vs, rfl, h, t⟩
theorem RepDs.uncons {d : D} {ds : List D} {vs : List V} (h : RepDs G H (d :: ds) vs) : ∃ v ws, vs = v :: ws ∧ RepD G H d v ∧ RepDs G H ds ws := by
  simpa only [RepDs] using h
theorem RepDs.length : ∀ {ds : List D} {vs : List V}, RepDs G H ds vs → ds.length = vs.length
  | [], vs, h => by
    rw [RepDs.nil_iff] at h
    rw [h]
    rfl
  | d :: ds, vs, h => by
    obtain ⟨v, ws, rfl, _, t⟩ := h.uncons
    simp [RepDs.length t]
theorem RepDs.get : ∀ {ds : List D} {vs : List V} {i : Nat} {d : D}, RepDs G H ds vs → ds[i]? = some d → ∃ v, vs[i]? = some v ∧ RepD G H d v
  | [], _, _, _, _, e => by simp at e
  | d :: ds, vs, 0, x, h, e => by
    obtain ⟨v, ws, rfl, p, t⟩ := h.uncons
    simp at e
    subst e
    exact ⟨v, rfl, p⟩
  | d :: ds, vs, i + 1, x, h, e => by
    obtain ⟨v, ws, rfl, p, t⟩ := h.uncons
    obtain ⟨u, e1, r⟩ := RepDs.get (i := i) t (by simpa using e)
    exact ⟨u, by simpa using e1, r⟩
theorem RepDs.append : ∀ {ds es : List D} {vs ws : List V}, RepDs G H ds vs → RepDs G H es ws → RepDs G H (ds ++ es) (vs ++ ws)
  | [], _, vs, _, h, t => by
    rw [RepDs.nil_iff] at h
    subst h
    exact t
  | d :: ds, es, vs, ws, h, t => by
    obtain ⟨v, us, rfl, p, q⟩ := h.uncons
    exact RepDs.cons p (RepDs.append q t)
theorem RepDs.take : ∀ {ds : List D} {vs : List V} (n : Nat), RepDs G H ds vs → RepDs G H (ds.take n) (vs.take n)
  | [], vs, n, h => by
    rw [RepDs.nil_iff] at h
    subst h
    simp [RepDs]
  | d :: ds, vs, 0, h => by simp [RepDs]
  | d :: ds, vs, n + 1, h => by
    obtain ⟨v, us, rfl, p, q⟩ := h.uncons
    exact RepDs.cons p (RepDs.take n q)
theorem RepDs.drop : ∀ {ds : List D} {vs : List V} (n : Nat), RepDs G H ds vs → RepDs G H (ds.drop n) (vs.drop n)
  | [], vs, n, h => by
    rw [RepDs.nil_iff] at h
    subst h
    simp [RepDs]
  | d :: ds, vs, 0, h => h
  | d :: ds, vs, n + 1, h => by
    obtain ⟨v, us, rfl, p, q⟩ := h.uncons
    exact RepDs.drop n q
theorem RepDs.of_get : ∀ {ds : List D} {vs : List V}, ds.length = vs.length → (∀ (i : Nat) d v, ds[i]? = some d → vs[i]? = some v → RepD G H d v) → RepDs G H ds vs
  | [], [], _, _ => by simp [RepDs]
  | d :: ds, v :: vs, hl, h => RepDs.cons (h 0 d v rfl rfl) (RepDs.of_get (by simpa using hl) fun i d' v' e1 e2 => h (i + 1) d' v' (by simpa using e1) (by simpa using e2))
theorem RepDs.set : ∀ {ds : List D} {vs : List V} {d : D} {v : V} (i : Nat), RepDs G H ds vs → RepD G H d v → RepDs G H (ds.set i d) (vs.set i v)
  | [], vs, _, _, i, h, _ => by
    rw [RepDs.nil_iff] at h
    subst h
    simp [RepDs]
  | x :: ds, vs, d, v, 0, h, p => by
    obtain ⟨w, us, rfl, _, q⟩ := h.uncons
    exact RepDs.cons p q
  | x :: ds, vs, d, v, i + 1, h, p => by
    obtain ⟨w, us, rfl, z, q⟩ := h.uncons
    exact RepDs.cons z (RepDs.set i q p)
end

/-! ### values with owned parts -/
mutual
def RepV (G : Gc) (H Hs : Hp) : Val → V → List Addr → Prop
  | .sh d, v, as => as = [] ∧ RepD G Hs d v
  | .ol xs, v, as => ∃ a vs bs, v = .ref a ∧ as = a :: bs ∧ H a = some (.lst vs) ∧ RepVs G H Hs xs vs bs
  | .ot xs, v, as => ∃ a vs bs, v = .ref a ∧ as = a :: bs ∧ H a = some (.tup vs) ∧ RepVs G H Hs xs vs bs
  | .od ks xs, v, as => ∃ a vs bs, v = .ref a ∧ as = a :: bs ∧ H a = some (.dK (ks.zip vs)) ∧ ks.length = vs.length ∧ RepVs G H Hs xs vs bs
  | .oi c fs xs, v, as => ∃ a dx vs bs, v = .ref a ∧ as = a :: dx :: bs ∧ H a = some (.ins (G.C c) dx (fs.zip vs)) ∧ H dx = some (.own a) ∧ fs.length = vs.length ∧ RepVs G H Hs xs vs bs
def RepVs (G : Gc) (H Hs : Hp) : List Val → List V → List Addr → Prop
  | [], vs, as => vs = [] ∧ as = []
  | x :: xs, vs, as => ∃ v ws a1 a2, vs = v :: ws ∧ as = a1 ++ a2 ∧ RepV G H Hs x v a1 ∧ RepVs G H Hs xs ws a2
end

section
variable {G : Gc} {H H' Hs Hs' : Hp}
mutual
theorem RepV.stay : ∀ {x : Val} {v : V} {as : List Addr}, RepV G H Hs x v as → (∀ a ∈ as, ∀ o, H a = some o → H' a = some o) → Le Hs Hs' → RepV G H' Hs' x v as
  | .sh d, v, as, h, _, s => by
    simp only [RepV] at h ⊢
    exact ⟨h.1, RepD.le h.2 s⟩
  | .ol xs, v, as, h, k, s => by
    simp only [RepV] at h ⊢
    obtain ⟨a, vs, bs, e, rfl, q, r⟩ := h
    exact ⟨a, vs, bs, e, rfl, k a (by simp) _ q, RepVs.stay r (fun b hb => k b (by simp [hb])) s⟩
  | .ot xs, v, as, h, k, s => by
    simp only [RepV] at h ⊢
    obtain ⟨a, vs, bs, e, rfl, q, r⟩ := h
    exact ⟨a, vs, bs, e, rfl, k a (by simp) _ q, RepVs.stay r (fun b hb => k b (by simp [hb])) s⟩
  | .od ks xs, v, as, h, k, s => by
    simp only [RepV] at h ⊢
    obtain ⟨a, vs, bs, e, rfl, q, l, r⟩ := h
    exact ⟨a, vs, bs, e, rfl, k a (by simp) _ q, l, RepVs.stay r (fun b hb => k b (by simp [hb])) s⟩
  | .oi c fs xs, v, as, h, k, s => by
    simp only [RepV] at h ⊢
    obtain ⟨a, dx, vs, bs, e, rfl, q, q2, l, r⟩ := h
    exact ⟨a, dx, vs, bs, e, rfl, k a (by simp) _ q, k dx (by simp) _ q2, l, RepVs.stay r (fun b hb => k b (by simp [hb])) s⟩
theorem RepVs.stay : ∀ {xs : List Val} {vs : List V} {as : List Addr}, RepVs G H Hs xs vs as → (∀ a ∈ as, ∀ o, H a = some o → H' a = some o) → Le Hs Hs' → RepVs G H' Hs' xs vs as
  | [], vs, as, h, _, _ => by simpa only [RepVs] using h
  | x :: xs, vs, as, h, k, s => by
    simp only [RepVs] at h ⊢
    obtain ⟨v, ws, a1, a2, e, rfl, p, q⟩ := h
    exact ⟨v, ws, a1, a2, e, rfl, RepV.stay p (fun b hb => k b (by simp [hb])) s, RepVs.stay q (fun b hb => k b (by simp [hb])) s⟩
end
mutual
/-- every owned address is tracked -/
theorem RepV.there : ∀ {x : Val} {v : V} {as : List Addr}, RepV G H Hs x v as → ∀ a ∈ as, H a ≠ none
  | .sh d, v, as, h, a, ha => by
    simp only [RepV] at h
    rw [h.1] at ha
    cases ha
  | .ol xs, v, as, h, a, ha => by
    simp only [RepV] at h
    obtain ⟨b, vs, bs, e, rfl, q, r⟩ := h
    rcases List.mem_cons.mp ha with rfl | ha
    · rw [q]; exact fun z => nomatch z
    · exact RepVs.there r a ha
  | .ot xs, v, as, h, a, ha => by
    simp only [RepV] at h
    obtain ⟨b, vs, bs, e, rfl, q, r⟩ := h
    rcases List.mem_cons.mp ha with rfl | ha
    · rw [q]; exact fun z => nomatch z
    · exact RepVs.there r a ha
  | .od ks xs, v, as, h, a, ha => by
    simp only [RepV] at h
    obtain ⟨b, vs, bs, e, rfl, q, l, r⟩ := h
    rcases List.mem_cons.mp ha with rfl | ha
    · rw [q]; exact fun z => nomatch z
    · exact RepVs.there r a ha
  | .oi c fs xs, v, as, h, a, ha => by
    simp only [RepV] at h
    obtain ⟨b, dx, vs, bs, e, rfl, q, q2, l, r⟩ := h
    rcases List.mem_cons.mp ha with rfl | ha
    · rw [q]; exact fun z => nomatch z
    · rcases List.mem_cons.mp ha with rfl | ha
      · rw [q2]; exact fun z => nomatch z
      · exact RepVs.there r a ha
theorem RepVs.there : ∀ {xs : List Val} {vs : List V} {as : List Addr}, RepVs G H Hs xs vs as → ∀ a ∈ as, H a ≠ none
  | [], vs, as, h, a, ha => by
    simp only [RepVs] at h
    rw [h.2] at ha
    cases ha
  | x :: xs, vs, as, h, a, ha => by
    simp only [RepVs] at h
    obtain ⟨v, ws, a1, a2, e, rfl, p, q⟩ := h
    rcases List.mem_append.mp ha with ha | ha
    · exact RepV.there p a ha
    · exact RepVs.there q a ha
end
mutual
/-- handed over: where the owned objects stand in Hs', the value is shared -/
theorem RepV.frozen : ∀ {x : Val} {v : V} {as : List Addr}, RepV G H Hs x v as → (∀ a ∈ as, ∀ o, H a = some o → Hs' a = some o) → Le Hs Hs' → RepD G Hs' x.d v
  | .sh d, v, as, h, _, s => by
    simp only [RepV] at h
    rw [Val.d]
    exact RepD.le h.2 s
  | .ol xs, v, as, h, k, s => by
    simp only [RepV] at h
    rw [Val.d]
    simp only [RepD]
    obtain ⟨a, vs, bs, e, rfl, q, r⟩ := h
    exact ⟨a, vs, e, SqL.of (k a (by simp) _ q), RepVs.frozen r (fun b hb => k b (by simp [hb])) s⟩
  | .ot xs, v, as, h, k, s => by
    simp only [RepV] at h
    rw [Val.d]
    simp only [RepD]
    obtain ⟨a, vs, bs, e, rfl, q, r⟩ := h
    exact ⟨a, vs, e, SqT.of (k a (by simp) _ q), RepVs.frozen r (fun b hb => k b (by simp [hb])) s⟩
  | .od ks xs, v, as, h, k, s => by
    simp only [RepV] at h
    rw [Val.d]
    simp only [RepD]
    obtain ⟨a, vs, bs, e, rfl, q, l, r⟩ := h
    exact ⟨a, vs, e, .inl (k a (by simp) _ q), l, RepVs.frozen r (fun b hb => k b (by simp [hb])) s⟩
  | .oi c fs xs, v, as, h, k, s => by
    simp only [RepV] at h
    rw [Val.d]
    simp only [RepD]
    obtain ⟨a, dx, vs, bs, e, rfl, q, q2, l, r⟩ := h
    exact ⟨a, dx, vs, e, k a (by simp) _ q, l, RepVs.frozen r (fun b hb => k b (by simp [hb])) s⟩
theorem RepVs.frozen : ∀ {xs : List Val} {vs : List V} {as : List Addr}, RepVs G H Hs xs vs as → (∀ a ∈ as, ∀ o, H a = some o → Hs' a = some o) → Le Hs Hs' → RepDs G Hs' (Val.ds xs) vs
  | [], vs, as, h, _, _ => by
    simp only [RepVs] at h
    simp only [Val.ds, RepDs]
    exact h.1
  | x :: xs, vs, as, h, k, s => by
    simp only [RepVs] at h
    obtain ⟨v, ws, a1, a2, rfl, rfl, p, q⟩ := h
    rw [Val.ds]
    exact RepDs.cons (RepV.frozen p (fun b hb => k b (by simp [hb])) s) (RepVs.frozen q (fun b hb => k b (by simp [hb])) s)
end
theorem RepV.sh_iff {d : D} {v : V} {as : List Addr} : RepV G H Hs (.sh d) v as ↔ as = [] ∧ RepD G Hs d v := by simp only [RepV]
theorem RepVs.nil_iff {vs : List V} {as : List Addr} : RepVs G H Hs [] vs as ↔ vs = [] ∧ as = [] := by simp only [RepVs]
theorem RepVs.uncons {x : Val} {xs : List Val} {vs : List V} {as : List Addr} (h : RepVs G H Hs (x :: xs) vs as) : ∃ v ws a1 a2, vs = v :: ws ∧ as = a1 ++ a2 ∧ RepV G H Hs x v a1 ∧ RepVs G H Hs xs ws a2 := by
  simpa only [RepVs] using h
theorem RepVs.cons {x : Val} {xs : List Val} {v : V} {vs : List V} {a1 a2 : List Addr} (h : RepV G H Hs x v a1) (t : RepVs G H Hs xs vs a2) : RepVs G H Hs (x :: xs) (v :: vs) (a1 ++ a2) := by
  simp only [RepVs]
  exact ⟨v, vs, a1, a2, rfl, rfl, h, t⟩
theorem RepVs.length : ∀ {xs : List Val} {vs : List V} {as : List Addr}, RepVs G H Hs xs vs as → xs.length = vs.length
  | [], _, _, h => by
    rw [RepVs.nil_iff] at h
    rw [h.1]
    rfl
  | x :: xs, _, _, h => by
    obtain ⟨v, ws, a1, a2, rfl, rfl, _, t⟩ := h.uncons
    simp [RepVs.length t]
theorem RepVs.shs : ∀ {ds : List D} {vs : List V}, RepDs G Hs ds vs → RepVs G H Hs (ds.map .sh) vs []
  | [], vs, h => by
    rw [RepDs.nil_iff] at h
    exact RepVs.nil_iff.mpr ⟨h, rfl⟩
  | d :: ds, vs, h => by
    obtain ⟨v, ws, rfl, p, q⟩ := h.uncons
    exact RepVs.cons (a1 := []) (RepV.sh_iff.mpr ⟨rfl, p⟩) (RepVs.shs q)
end

/-! ### slots -/
abbrev Env := List (Option Val)
def RepO (G : Gc) (H Hs : Hp) : Env → L2.St → List Addr → Prop
  | [], σ, as => σ = [] ∧ as = []
  | none :: η, σ, as => ∃ s σ', σ = s :: σ' ∧ RepO G H Hs η σ' as
  | some x :: η, σ, as => ∃ v σ' a1 a2, σ = some v :: σ' ∧ as = a1 ++ a2 ∧ RepV G H Hs x v a1 ∧ RepO G H Hs η σ' a2
section
variable {G : Gc} {H H' Hs Hs' : Hp}
theorem RepO.stay : ∀ {η : Env} {σ : L2.St} {as : List Addr}, RepO G H Hs η σ as → (∀ a ∈ as, ∀ o, H a = some o → H' a = some o) → Le Hs Hs' → RepO G H' Hs' η σ as
  | [], _, _, h, _, _ => h
  | none :: η, σ, as, h, k, s => by
    obtain ⟨t, σ', e, r⟩ := h
    exact ⟨t, σ', e, RepO.stay r k s⟩
  | some x :: η, σ, as, h, k, s => by
    obtain ⟨v, σ', a1, a2, e, rfl, p, r⟩ := h
    exact ⟨v, σ', a1, a2, e, rfl, p.stay (fun a ha => k a (by simp [ha])) s, RepO.stay r (fun a ha => k a (by simp [ha])) s⟩
theorem RepO.there : ∀ {η : Env} {σ : L2.St} {as : List Addr}, RepO G H Hs η σ as → ∀ a ∈ as, H a ≠ none
  | [], _, _, h, a, ha => by
    rw [h.2] at ha
    cases ha
  | none :: η, σ, as, h, a, ha => by
    obtain ⟨t, σ', e, r⟩ := h
    exact RepO.there r a ha
  | some x :: η, σ, as, h, a, ha => by
    obtain ⟨v, σ', a1, a2, e, rfl, p, r⟩ := h
    rcases List.mem_append.mp ha with ha | ha
    · exact p.there a ha
    · exact RepO.there r a ha
theorem RepO.length : ∀ {η : Env} {σ : L2.St} {as : List Addr}, RepO G H Hs η σ as → η.length = σ.length
  | [], _, _, h => by rw [h.1]; rfl
  | none :: η, σ, as, h => by
    obtain ⟨t, σ', rfl, r⟩ := h
    simp [RepO.length r]
  | some x :: η, σ, as, h => by
    obtain ⟨v, σ', a1, a2, rfl, rfl, p, r⟩ := h
    simp [RepO.length r]
theorem RepO.split : ∀ {π η : Env} {s : L2.St} {as : List Addr}, RepO G H Hs (π ++ η) s as → ∃ τ σ a1 a2, s = τ ++ σ ∧ as = a1 ++ a2 ∧ RepO G H Hs π τ a1 ∧ RepO G H Hs η σ a2
  | [], η, s, as, h => ⟨[], s, [], as, rfl, rfl, ⟨rfl, rfl⟩, h⟩
  | none :: π, η, s, as, h => by
    obtain ⟨t, σ', rfl, r⟩ := h
    obtain ⟨τ, σ, a1, a2, rfl, rfl, p, q⟩ := RepO.split r
    exact ⟨t :: τ, σ, a1, a2, rfl, rfl, ⟨t, τ, rfl, p⟩, q⟩
  | some x :: π, η, s, as, h => by
    obtain ⟨v, σ', b1, b2, rfl, rfl, p, r⟩ := h
    obtain ⟨τ, σ, a1, a2, rfl, rfl, p2, q⟩ := RepO.split r
    exact ⟨some v :: τ, σ, b1 ++ a1, a2, rfl, by rw [List.append_assoc], ⟨v, τ, b1, a1, rfl, rfl, p, p2⟩, q⟩
theorem RepO.join : ∀ {π η : Env} {τ σ : L2.St} {a1 a2 : List Addr}, RepO G H Hs π τ a1 → RepO G H Hs η σ a2 → RepO G H Hs (π ++ η) (τ ++ σ) (a1 ++ a2)
  | [], η, τ, σ, a1, a2, h, q => by
    obtain ⟨rfl, rfl⟩ := h
    exact q
  | none :: π, η, τ, σ, a1, a2, h, q => by
    obtain ⟨t, σ', rfl, r⟩ := h
    exact ⟨t, _, rfl, RepO.join r q⟩
  | some x :: π, η, τ, σ, a1, a2, h, q => by
    obtain ⟨v, σ', b1, b2, rfl, rfl, p, r⟩ := h
    exact ⟨v, _, b1, b2 ++ a2, rfl, by rw [List.append_assoc], p, RepO.join r q⟩
/-- a slot's value, and the rest -/
theorem RepO.at : ∀ {η : Env} {σ : L2.St} {as : List Addr} {i : Nat} {x : Val}, RepO G H Hs η σ as → η[i]? = some (some x) →
    ∃ v a1 a2 a3, σ[i]? = some (some v) ∧ as = a1 ++ (a2 ++ a3) ∧ RepV G H Hs x v a2 ∧
      ∀ (H' Hs' : Hp) (y : Option Val) (u : Option V) (b : List Addr), (match y with | some z => ∃ w, u = some w ∧ RepV G H' Hs' z w b | none => b = []) →
        (∀ a ∈ a1 ++ a3, ∀ o, H a = some o → H' a = some o) → Le Hs Hs' → RepO G H' Hs' (η.set i y) (σ.set i u) (a1 ++ (b ++ a3))
  | [], _, _, i, x, _, e => by simp at e
  | none :: η, σ, as, 0, x, h, e => by simp at e
  | some z :: η, σ, as, 0, x, h, e => by
    obtain ⟨v, σ', b1, b2, rfl, rfl, p, r⟩ := h
    simp at e
    subst e
    refine ⟨v, [], b1, b2, rfl, rfl, p, fun H' Hs' y u b hy k s => ?_⟩
    have r' := r.stay (fun a ha => k a (by simp [ha])) s
    cases y with
    | none =>
      simp only at hy
      subst hy
      exact ⟨u, σ', rfl, r'⟩
    | some w =>
      obtain ⟨w', rfl, q⟩ := hy
      exact ⟨w', σ', b, b2, rfl, rfl, q, r'⟩
  | none :: η, σ, as, i + 1, x, h, e => by
    obtain ⟨t, σ', rfl, r⟩ := h
    obtain ⟨v, a1, a2, a3, e1, e2, p, k⟩ := RepO.at (i := i) r (by simpa using e)
    refine ⟨v, a1, a2, a3, by simpa using e1, e2, p, fun H' Hs' y u b hy k1 s => ?_⟩
    exact ⟨t, _, rfl, k H' Hs' y u b hy k1 s⟩
  | some z :: η, σ, as, i + 1, x, h, e => by
    obtain ⟨w, σ', b1, b2, rfl, rfl, pz, r⟩ := h
    obtain ⟨v, a1, a2, a3, e1, rfl, p, k⟩ := RepO.at (i := i) r (by simpa using e)
    refine ⟨v, b1 ++ a1, a2, a3, by simpa using e1, by simp, p, fun H' Hs' y u b hy k1 s => ?_⟩
    refine ⟨w, _, b1, a1 ++ (b ++ a3), rfl, by simp, pz.stay (fun a ha => k1 a (by simp [ha])) s, k H' Hs' y u b hy (fun a ha => k1 a ?_) s⟩
    simp only [List.mem_append] at ha ⊢
    rcases ha with ha | ha <;> simp [ha]
/-- a slot is stored -/
theorem RepO.store : ∀ {η : Env} {σ : L2.St} {as : List Addr} (i : Nat) (y : Option Val) (u : Option V) (b : List Addr), RepO G H Hs η σ as → i < η.length →
    (match y with | some z => ∃ w, u = some w ∧ RepV G H Hs z w b | none => b = []) → ∃ a1 a2 a3, as = a1 ++ (a2 ++ a3) ∧ RepO G H Hs (η.set i y) (σ.set i u) (a1 ++ (b ++ a3))
  | [], _, _, i, _, _, _, _, hi, _ => by simp at hi
  | none :: η, σ, as, 0, y, u, b, h, _, hy => by
    obtain ⟨t, σ', rfl, r⟩ := h
    refine ⟨[], [], as, rfl, ?_⟩
    cases y with
    | none =>
      simp only at hy
      subst hy
      exact ⟨u, σ', rfl, r⟩
    | some w =>
      obtain ⟨w', rfl, q⟩ := hy
      exact ⟨w', σ', b, as, rfl, rfl, q, r⟩
  | some z :: η, σ, as, 0, y, u, b, h, _, hy => by
    obtain ⟨v, σ', b1, b2, rfl, rfl, p, r⟩ := h
    refine ⟨[], b1, b2, rfl, ?_⟩
    cases y with
    | none =>
      simp only at hy
      subst hy
      exact ⟨u, σ', rfl, r⟩
    | some w =>
      obtain ⟨w', rfl, q⟩ := hy
      exact ⟨w', σ', b, b2, rfl, rfl, q, r⟩
  | none :: η, σ, as, i + 1, y, u, b, h, hi, hy => by
    obtain ⟨t, σ', rfl, r⟩ := h
    obtain ⟨a1, a2, a3, e, q⟩ := RepO.store i y u b r (by simpa using hi) hy
    exact ⟨a1, a2, a3, e, t, _, rfl, q⟩
  | some z :: η, σ, as, i + 1, y, u, b, h, hi, hy => by
    obtain ⟨v, σ', b1, b2, rfl, rfl, p, r⟩ := h
    obtain ⟨a1, a2, a3, rfl, q⟩ := RepO.store i y u b r (by simpa using hi) hy
    exact ⟨b1 ++ a1, a2, a3, by simp, v, _, b1, _, rfl, by simp, p, q⟩
end

/-! ### the state -/
structure Rep (G : Gc) (η : Env) (σ : L2.St) (as : List Addr) (H Hs : Hp) : Prop where
  le : Le Hs H
  env : RepO G H Hs η σ as
  nd : as.Nodup
  off : ∀ a ∈ as, Hs a = none
/-- what a run may do: owned at first as, then as' -/
structure Ext (as : List Addr) (H Hs : Hp) (as' : List Addr) (H' Hs' : Hp) : Prop where
  keep : ∀ b o, H b = some o → b ∉ as → H' b = some o
  grow : Sub Hs Hs'
  new : ∀ b, Hs' b ≠ none → Hs b ≠ none ∨ H b = none ∨ b ∈ as
  anew : ∀ a ∈ as', a ∈ as ∨ H a = none
theorem Ext.refl {as : List Addr} {H Hs : Hp} : Ext as H Hs as H Hs := ⟨fun _ _ e _ => e, Sub.refl, fun _ h => .inl h, fun _ h => .inl h⟩
theorem Ext.trans {as as' as'' : List Addr} {H Hs H' Hs' H'' Hs'' : Hp} (x : Ext as H Hs as' H' Hs') (y : Ext as' H' Hs' as'' H'' Hs'') : Ext as H Hs as'' H'' Hs'' := by
  have back : ∀ b, H' b = none → H b = none ∨ b ∈ as := fun b h => by
    cases e : H b with
    | none => exact .inl rfl
    | some o =>
      by_cases hb : b ∈ as
      · exact .inr hb
      · rw [x.keep b o e hb] at h
        cases h
  refine ⟨fun b o e hb => ?_, x.grow.trans y.grow, fun b h => ?_, fun a ha => ?_⟩
  · refine y.keep b o (x.keep b o e hb) fun hb' => ?_
    rcases x.anew b hb' with z | z
    · exact hb z
    · rw [e] at z
      cases z
  · rcases y.new b h with z | z | z
    · exact x.new b z
    · exact .inr (back b z)
    · rcases x.anew b z with z | z
      · exact .inr (.inr z)
      · exact .inr (.inl z)
  · rcases y.anew a ha with z | z
    · exact x.anew a z
    · exact (back a z).symm
/-- the list of owned ones matters by membership only -/
theorem Ext.mem {as bs as' bs' : List Addr} {H Hs H' Hs' : Hp} (x : Ext as H Hs as' H' Hs') (h : ∀ a, a ∈ as ↔ a ∈ bs) (h' : ∀ a, a ∈ bs' → a ∈ as' ∨ a ∈ bs ∨ H a = none) : Ext bs H Hs bs' H' Hs' :=
  ⟨fun b o e hb => x.keep b o e fun z => hb ((h b).mp z), x.grow, fun b z => (x.new b z).imp id (Or.imp id (h b).mp), fun a ha => by
    rcases h' a ha with z | z
    · exact (x.anew a z).imp (h a).mp id
    · exact z⟩
end Wp
end
section
set_option Elab.async false
set_option linter.all false
set_option maxRecDepth 100000
/-! WpB: judgements over data; the frame; operands. -/
namespace Wp
open PySem PySem.Spec PyProof.Rows L2

inductive Res (α : Type) where
  | ok (a : α) (η : Env)
  | exc (c : Nat) (p : Option Val) (η : Env)
inductive Opv where
  | pend (x : Val)
  | slot (i : Nat)
  deriving Inhabited
def Opv.p : Opv → Option Val
  | .pend x => some x
  | .slot _ => none
def Opv.lnk (σ : L2.St) (v : V) : Opv → Prop
  | .pend _ => True
  | .slot i => σ[i]? = some (some v)

/-- the module -/
structure Md where
  prog : Program
  w : World
  K : PySem.W.Frag
  mg : Str → Option Value
  base : Heap
  C : Nat → Addr
abbrev Md.G (M : Md) : Gc := ⟨M.K, M.C⟩
def mdOf (X : Cx) (C : Nat → Addr) : Md := ⟨X.prog, X.w, X.K, X.mg, X.base, C⟩

/-- an exception with its field -/
def XRep (H : Hp) (p : Option Val) (v : Option V) (dx : Option Addr) : Prop := match p with
  | none => dx = none
  | some _ => ∃ d u, dx = some d ∧ v = some u ∧ H d = some (.xd [("value", u)])
def PostX (G : Gc) (W : WX) (σ : L2.St) (as : List Addr) (H Hs : Hp) (c : Nat) (p : Option Val) (η' : Env) : Prop :=
  ∀ v dx as' H' Hs', Rep G (p :: η') (v :: σ) as' H' Hs' → XRep H' p v dx → Ext as H Hs as' H' Hs' → W (.ref (G.C c)) dx σ H'
def PostO (G : Gc) (W : WX) (σ : L2.St) (as : List Addr) (H Hs : Hp) (Q : VK) : Res Opv → Prop
  | .ok o η' => ∀ v as' H' Hs', Rep G (o.p :: η') (some v :: σ) as' H' Hs' → o.lnk σ v → Ext as H Hs as' H' Hs' → Q v H'
  | .exc c p η' => PostX G W σ as H Hs c p η'
abbrev FO := Env → Option (Res Opv)
/-- an expression, read as data -/
def OkO (M : Md) (X : Cx) (W : WX) (e : Expr) (f : FO) : Prop :=
  ∃ t, PE X e t ∧ ∀ η σ as H Hs r Q, Rep M.G η σ as H Hs → f η = some r → PostO M.G W σ as H Hs Q r → t σ H Q

theorem Rep.sub {G : Gc} {π η : Env} {τ σ : L2.St} {as : List Addr} {H Hs : Hp} (h : Rep G (π ++ η) (τ ++ σ) as H Hs) (hl : τ.length = π.length) :
    ∃ a1 a2, as = a1 ++ a2 ∧ RepO G H Hs π τ a1 ∧ Rep G η σ a2 H Hs := by
  obtain ⟨τ', σ', a1, a2, e, rfl, p, q⟩ := RepO.split h.env
  have l1 := p.length
  obtain ⟨rfl, rfl⟩ := List.append_inj e (hl.trans l1)
  exact ⟨a1, a2, rfl, p, h.le, q, (List.nodup_append.mp h.nd).2.1, fun a ha => h.off a (by simp [ha])⟩
/-- what stands beside stays beside -/
theorem Rep.frame {G : Gc} {π : Env} {τ : L2.St} {η' : Env} {σ' : L2.St} {a1 a2 b : List Addr} {H Hs H' Hs' : Hp} (h1 : RepO G H Hs π τ a1) (nd : (a1 ++ a2).Nodup) (off : ∀ a ∈ a1, Hs a = none)
    (h : Rep G η' σ' b H' Hs') (x : Ext a2 H Hs b H' Hs') : Rep G (π ++ η') (τ ++ σ') (a1 ++ b) H' Hs' ∧ Ext (a1 ++ a2) H Hs (a1 ++ b) H' Hs' := by
  obtain ⟨n1, n2, n3⟩ := List.nodup_append.mp nd
  have dis : ∀ a ∈ a1, a ∉ a2 := fun a ha hb => n3 a ha a hb rfl
  refine ⟨⟨h.le, RepO.join (h1.stay (fun a ha o e => x.keep a o e (dis a ha)) x.grow.le) h.env, List.nodup_append.mpr ⟨n1, h.nd, fun a ha c hc e => ?_⟩, fun a ha => ?_⟩,
    fun c o e hc => x.keep c o e fun z => hc (by simp [z]), x.grow, fun c z => ?_, fun a ha => ?_⟩
  · subst e
    rcases x.anew a hc with z | z
    · exact dis a ha z
    · exact h1.there a ha z
  · rcases List.mem_append.mp ha with ha | ha
    · cases e : Hs' a with
      | none => rfl
      | some o =>
        rcases x.new a (by rw [e]; exact fun z => nomatch z) with z | z | z
        · exact absurd (off a ha) z
        · exact absurd z (h1.there a ha)
        · exact absurd z (dis a ha)
    · exact h.off a ha
  · rcases x.new c z with z | z | z
    · exact .inl z
    · exact .inr (.inl z)
    · exact .inr (.inr (by simp [z]))
  · rcases List.mem_append.mp ha with ha | ha
    · exact .inl (by simp [ha])
    · rcases x.anew a ha with z | z
      · exact .inl (by simp [z])
      · exact .inr z
theorem Ext.more {as as' : List Addr} {H Hs H' Hs' : Hp} (a1 : List Addr) (x : Ext as H Hs as' H' Hs') : Ext (a1 ++ as) H Hs as' H' Hs' :=
  ⟨fun c o e hc => x.keep c o e fun z => hc (by simp [z]), x.grow, fun c z => (x.new c z).imp id (Or.imp id fun z => by simp [z]), fun a ha => (x.anew a ha).imp (fun z => by simp [z]) id⟩

section
variable {M : Md} {X : Cx} {W : WX} {e : Expr} {f : FO}
/-- with values pending -/
theorem OkO.framed (h : OkO M X W e f) : ∃ t, PE X e t ∧ ∀ π τ η σ as H Hs r Q, Rep M.G (π ++ η) (τ ++ σ) as H Hs → τ.length = π.length → f η = some r →
    (match r with
      | .ok o η' => ∀ v as' H' Hs', Rep M.G (π ++ (o.p :: η')) (τ ++ (some v :: σ)) as' H' Hs' → o.lnk σ v → Ext as H Hs as' H' Hs' → Q v H'
      | .exc c p η' => PostX M.G W σ as H Hs c p η') → t σ H Q := by
  obtain ⟨t, ht, hh⟩ := h
  refine ⟨t, ht, fun π τ η σ as H Hs r Q hR hl hf hp => ?_⟩
  obtain ⟨a1, a2, rfl, p, q⟩ := hR.sub hl
  have off : ∀ a ∈ a1, Hs a = none := fun a ha => hR.off a (by simp [ha])
  refine hh η σ a2 H Hs r Q q hf ?_
  cases r with
  | ok o η' =>
    intro v as' H' Hs' hR' hk hx
    obtain ⟨r1, r2⟩ := Rep.frame p hR.nd off hR' hx
    exact hp v _ H' Hs' r1 hk r2
  | exc c pp η' =>
    intro v dx as' H' Hs' hR' hX hx
    exact hp v dx as' H' Hs' hR' hX (hx.more a1)
end

/-! ### monad of results -/
abbrev RO (α : Type) := Option (Res α)
def bindR {α β : Type} (x : RO α) (k : α → Env → RO β) : RO β := match x with
  | none => none
  | some (.ok a η) => k a η
  | some (.exc c p η) => some (.exc c p η)
def okR {α : Type} (a : α) (η : Env) : RO α := some (.ok a η)
@[simp] theorem bindR_ok {α β : Type} (a : α) (η : Env) (k : α → Env → RO β) : bindR (okR a η) k = k a η := rfl
@[simp] theorem bindR_some {α β : Type} (a : α) (η : Env) (k : α → Env → RO β) : bindR (some (.ok a η)) k = k a η := rfl
@[simp] theorem bindR_none {α β : Type} (k : α → Env → RO β) : bindR none k = none := rfl
@[simp] theorem bindR_exc {α β : Type} (c : Nat) (p : Option Val) (η : Env) (k : α → Env → RO β) : bindR (some (.exc c p η)) k = some (.exc c p η) := rfl
theorem bindR_inv {α β : Type} {x : RO α} {k : α → Env → RO β} {r : Res β} (h : bindR x k = some r) : (∃ a η, x = some (.ok a η) ∧ k a η = some r) ∨ ∃ c p η, x = some (.exc c p η) ∧ r = .exc c p η := by
  cases x with
  | none => cases h
  | some y =>
    cases y with
    | ok a η => exact .inl ⟨a, η, rfl, h⟩
    | exc c p η => exact .inr ⟨c, p, η, rfl, (Option.some.inj h).symm⟩

/-! ### pushing, freezing -/
section
variable {G : Gc} {η : Env} {σ : L2.St} {as : List Addr} {H Hs H' Hs' : Hp}
/-- a new value on top -/
theorem Rep.push {x : Val} {v : V} {b : List Addr} (h : Rep G η σ as H Hs) (k : Sub H H') (r : RepV G H' Hs x v b) (nd : b.Nodup) (new : ∀ a ∈ b, H a = none) :
    Rep G (some x :: η) (some v :: σ) (b ++ as) H' Hs ∧ Ext as H Hs (b ++ as) H' Hs := by
  have hs : ∀ a, H a = none → Hs a = none := fun a e => h.le.none e
  refine ⟨⟨fun c o e => ?_, ⟨v, σ, b, as, rfl, rfl, r, h.env.stay (fun a _ o e => k a o e) Le.refl⟩, List.nodup_append.mpr ⟨nd, h.nd, fun a ha c hc e => ?_⟩, fun a ha => ?_⟩, fun c o e _ => k c o e, Sub.refl, fun c z => .inl z, fun a ha => ?_⟩
  · rcases h.le c o e with z | ⟨ob, kvs, z1, z2⟩
    · exact .inl (k c o z)
    · exact .inr ⟨ob, kvs, z1, k c _ z2⟩
  · subst e
    exact h.env.there a hc (new a ha)
  · rcases List.mem_append.mp ha with ha | ha
    · exact hs a (new a ha)
    · exact h.off a ha
  · rcases List.mem_append.mp ha with ha | ha
    · exact .inr (new a ha)
    · exact .inl ha
theorem Rep.push_sh {d : D} {v : V} (h : Rep G η σ as H Hs) (r : RepD G Hs d v) : Rep G (some (.sh d) :: η) (some v :: σ) as H Hs :=
  (h.push (b := []) Sub.refl (RepV.sh_iff.mpr ⟨rfl, r⟩) List.nodup_nil (fun a ha => nomatch ha)).1
theorem Rep.pop {x : Option Val} {v : Option V} (h : Rep G (x :: η) (v :: σ) as H Hs) : ∃ as', Rep G η σ as' H Hs ∧ (∀ a ∈ as', a ∈ as) := by
  obtain ⟨a1, a2, rfl, _, q⟩ := Rep.sub (π := [x]) (τ := [v]) h rfl
  exact ⟨a2, q, fun a ha => by simp [ha]⟩
theorem Ext.less {as as' bs : List Addr} (x : Ext as H Hs as' H' Hs') (h : ∀ a ∈ bs, a ∈ as') : Ext as H Hs bs H' Hs' := ⟨x.keep, x.grow, x.new, fun a ha => x.anew a (h a ha)⟩
/-- the shared heap with what stands at some addresses -/
def lay (H Hs : Hp) (l : List Addr) : Hp := fun b => if b ∈ l then H b else Hs b
theorem lay_in {H Hs : Hp} {l : List Addr} {a : Addr} (h : a ∈ l) : lay H Hs l a = H a := by unfold lay; rw [if_pos h]
theorem lay_out {H Hs : Hp} {l : List Addr} {a : Addr} (h : a ∉ l) : lay H Hs l a = Hs a := by unfold lay; rw [if_neg h]
theorem lay_sub {H Hs : Hp} {l : List Addr} (h : ∀ a ∈ l, Hs a = none) : Sub Hs (lay H Hs l) := fun b o e => by
  by_cases hb : b ∈ l
  · rw [h b hb] at e
    cases e
  · rw [lay_out hb]
    exact e
theorem lay_le {H Hs : Hp} {l : List Addr} (h : Le Hs H) : Le (lay H Hs l) H := fun b o e => by
  by_cases hb : b ∈ l
  · rw [lay_in hb] at e
    exact .inl e
  · rw [lay_out hb] at e
    exact h b o e
/-- the value at a place becomes shared -/
theorem Rep.freeze {i : Nat} {x : Val} (h : Rep G η σ as H Hs) (e : η[i]? = some (some x)) : ∃ v as' Hs', σ[i]? = some (some v) ∧ Rep G (η.set i (some (.sh x.d))) σ as' H Hs' ∧ Ext as H Hs as' H Hs' ∧ RepD G Hs' x.d v := by
  obtain ⟨v, a1, a2, a3, ev, rfl, r, k⟩ := h.env.at e
  obtain ⟨n1, n23, n4⟩ := List.nodup_append.mp h.nd
  obtain ⟨n2, n3, n5⟩ := List.nodup_append.mp n23
  have off2 : ∀ a ∈ a2, Hs a = none := fun a ha => h.off a (by simp [ha])
  have sb := lay_sub (H := H) off2
  have fr : RepD G (lay H Hs a2) x.d v := r.frozen (fun a ha o e => by rw [lay_in ha]; exact e) sb.le
  have k2 := k H (lay H Hs a2) (some (.sh x.d)) (some v) [] ⟨v, rfl, RepV.sh_iff.mpr ⟨rfl, fr⟩⟩ (fun a _ o e => e) sb.le
  have es : σ.set i (some v) = σ := by
    refine List.ext_getElem? fun j => ?_
    by_cases hj : j = i
    · subst hj
      rw [List.getElem?_set_self (List.getElem?_eq_some_iff.mp ev).1, ev]
    · rw [List.getElem?_set_ne (Ne.symm hj)]
  rw [es] at k2
  refine ⟨v, a1 ++ ([] ++ a3), lay H Hs a2, ev, ⟨lay_le h.le, k2, ?_, fun a ha => ?_⟩, ⟨fun b o e _ => e, sb, fun b z => ?_, fun a ha => .inl ?_⟩, fr⟩
  · rw [List.nil_append]
    exact List.nodup_append.mpr ⟨n1, n3, fun a ha b hb => n4 a ha b (by simp [hb])⟩
  · have hm : a ∈ a1 ∨ a ∈ a3 := by simpa using ha
    have hn : a ∉ a2 := fun z => by
      rcases hm with hm | hm
      · exact n4 a hm a (by simp [z]) rfl
      · exact n5 a z a hm rfl
    rw [lay_out hn]
    exact h.off a (by rcases hm with hm | hm <;> simp [hm])
  · by_cases hb : b ∈ a2
    · exact .inr (.inr (by simp [hb]))
    · rw [lay_out hb] at z
      exact .inl z
  · have hm : a ∈ a1 ∨ a ∈ a3 := by simpa using ha
    rcases hm with hm | hm <;> simp [hm]
/-- the value on top becomes shared -/
theorem Rep.freeze0 {x : Val} {v : V} (h : Rep G (some x :: η) (some v :: σ) as H Hs) : ∃ as' Hs', Rep G (some (.sh x.d) :: η) (some v :: σ) as' H Hs' ∧ Ext as H Hs as' H Hs' ∧ RepD G Hs' x.d v := by
  obtain ⟨u, as', Hs', e, r, x1, x2⟩ := h.freeze (i := 0) rfl
  have e' : v = u := by simpa using e
  subst e'
  exact ⟨as', Hs', r, x1, x2⟩
end
end Wp
end
section
set_option Elab.async false
set_option linter.all false
set_option maxRecDepth 100000
/-! WpC: what a built-in operation sees of its operands; applications; displays; leaves. -/
namespace Wp
open PySem PySem.Spec PyProof.Rows L2

/-! ### a value by its top, its items shared -/
def RepT (G : Gc) (H Hs : Hp) : D → V → Prop
  | .tup xs, v => ∃ a vs, v = .ref a ∧ SqT G.K H a vs ∧ RepDs G Hs xs vs
  | .lst xs, v => ∃ a vs, v = .ref a ∧ SqL G.K H a vs ∧ RepDs G Hs xs vs
  | .dict ks xs, v => ∃ a vs, v = .ref a ∧ Rd H a (.dK (ks.zip vs)) ∧ ks.length = vs.length ∧ RepDs G Hs xs vs
  | .obj c fs xs, v => ∃ a dx vs, v = .ref a ∧ H a = some (.ins (G.C c) dx (fs.zip vs)) ∧ fs.length = vs.length ∧ RepDs G Hs xs vs
  | .non, v => v = .non
  | .bl b, v => v = .bl b
  | .int i, v => v = .int i
  | .str x, v => v = .str x
def RepTs (G : Gc) (H Hs : Hp) : List D → List V → Prop
  | [], vs => vs = []
  | d :: ds, vs => ∃ v ws, vs = v :: ws ∧ RepT G H Hs d v ∧ RepTs G H Hs ds ws
section
variable {G : Gc} {H Hs Hs' : Hp}
theorem RepD.top {d : D} {v : V} (h : RepD G Hs d v) (s : Le Hs H) : RepT G H Hs d v := by
  cases d with
  | tup xs =>
    simp only [RepD] at h
    obtain ⟨a, vs, e, q, r⟩ := h
    exact ⟨a, vs, e, SqT.le q s, r⟩
  | lst xs =>
    simp only [RepD] at h
    obtain ⟨a, vs, e, q, r⟩ := h
    exact ⟨a, vs, e, SqL.le q s, r⟩
  | dict ks xs =>
    simp only [RepD] at h
    obtain ⟨a, vs, e, q, l, r⟩ := h
    exact ⟨a, vs, e, Rd.le q s, l, r⟩
  | obj c fs xs =>
    simp only [RepD] at h
    obtain ⟨a, dx, vs, e, q, l, r⟩ := h
    exact ⟨a, dx, vs, e, s.keep q (fun _ z => nomatch z), l, r⟩
  | non => simp only [RepD] at h; exact h
  | bl b => simp only [RepD] at h; exact h
  | int i => simp only [RepD] at h; exact h
  | str x => simp only [RepD] at h; exact h
theorem RepT.mono {d : D} {v : V} (h : RepT G H Hs d v) (s : Sub Hs Hs') : RepT G H Hs' d v := by
  cases d with
  | tup xs =>
    obtain ⟨a, vs, e, q, r⟩ := h
    exact ⟨a, vs, e, q, RepDs.le r s.le⟩
  | lst xs =>
    obtain ⟨a, vs, e, q, r⟩ := h
    exact ⟨a, vs, e, q, RepDs.le r s.le⟩
  | dict ks xs =>
    obtain ⟨a, vs, e, q, l, r⟩ := h
    exact ⟨a, vs, e, q, l, RepDs.le r s.le⟩
  | obj c fs xs =>
    obtain ⟨a, dx, vs, e, q, l, r⟩ := h
    exact ⟨a, dx, vs, e, q, l, RepDs.le r s.le⟩
  | non => exact h
  | bl b => exact h
  | int i => exact h
  | str x => exact h
/-- all of it in H -/
theorem RepT.full {d : D} {v : V} (h : RepT G H Hs d v) (s : Le Hs H) : RepD G H d v := by
  cases d with
  | tup xs =>
    obtain ⟨a, vs, e, q, r⟩ := h
    simp only [RepD]
    exact ⟨a, vs, e, q, RepDs.le r s⟩
  | lst xs =>
    obtain ⟨a, vs, e, q, r⟩ := h
    simp only [RepD]
    exact ⟨a, vs, e, q, RepDs.le r s⟩
  | dict ks xs =>
    obtain ⟨a, vs, e, q, l, r⟩ := h
    simp only [RepD]
    exact ⟨a, vs, e, q, l, RepDs.le r s⟩
  | obj c fs xs =>
    obtain ⟨a, dx, vs, e, q, l, r⟩ := h
    simp only [RepD]
    exact ⟨a, dx, vs, e, q, l, RepDs.le r s⟩
  | non => simp only [RepD]; exact h
  | bl b => simp only [RepD]; exact h
  | int i => simp only [RepD]; exact h
  | str x => simp only [RepD]; exact h
end
def shOf : Val → Option D
  | .sh d => some d
  | _ => none
def shAll : List Val → Option (List D)
  | [] => some []
  | x :: xs => (shOf x).bind fun d => (shAll xs).bind fun ds => some (d :: ds)
def Val.top : Val → Option D
  | .sh d => some d
  | .ol xs => (shAll xs).map .lst
  | .ot xs => (shAll xs).map .tup
  | .od ks xs => (shAll xs).map (.dict ks)
  | .oi c fs xs => (shAll xs).map (.obj c fs)
@[simp] theorem shAll_map (ds : List D) : shAll (ds.map .sh) = some ds := by
  induction ds with
  | nil => rfl
  | cons d ds ih => simp [shAll, shOf, ih]
theorem shAll_inv : ∀ {xs : List Val} {ds : List D}, shAll xs = some ds → xs = ds.map .sh
  | [], ds, h => by
    simp only [shAll, Option.some.injEq] at h
    subst h
    rfl
  | x :: xs, ds, h => by
    cases x with
    | sh d =>
      simp only [shAll, shOf, Option.bind_some] at h
      cases e : shAll xs with
      | none =>
        rw [e] at h
        cases h
      | some es =>
        rw [e] at h
        simp only [Option.bind_some, Option.some.injEq] at h
        subst h
        rw [shAll_inv e]
        rfl
    | ol _ => simp [shAll, shOf] at h
    | ot _ => simp [shAll, shOf] at h
    | od _ _ => simp [shAll, shOf] at h
    | oi _ _ _ => simp [shAll, shOf] at h
section
variable {G : Gc} {H Hs : Hp}
theorem RepVs.shs_inv : ∀ {ds : List D} {vs : List V} {as : List Addr}, RepVs G H Hs (ds.map .sh) vs as → RepDs G Hs ds vs
  | [], vs, as, h => by
    rw [List.map_nil, RepVs.nil_iff] at h
    rw [RepDs.nil_iff]
    exact h.1
  | d :: ds, vs, as, h => by
    rw [List.map_cons] at h
    obtain ⟨v, ws, a1, a2, rfl, rfl, p, q⟩ := h.uncons
    exact RepDs.cons (RepV.sh_iff.mp p).2 (RepVs.shs_inv q)
theorem RepV.top {x : Val} {d : D} {v : V} {as : List Addr} (h : RepV G H Hs x v as) (e : x.top = some d) (s : Le Hs H) : RepT G H Hs d v := by
  cases x with
  | sh d' =>
    simp only [Val.top, Option.some.injEq] at e
    subst e
    exact (RepV.sh_iff.mp h).2.top s
  | ol xs =>
    simp only [Val.top, Option.map_eq_some_iff] at e
    obtain ⟨ds, e1, rfl⟩ := e
    rw [shAll_inv e1] at h
    simp only [RepV] at h
    obtain ⟨a, vs, bs, rfl, rfl, q, r⟩ := h
    exact ⟨a, vs, rfl, SqL.of q, r.shs_inv⟩
  | ot xs =>
    simp only [Val.top, Option.map_eq_some_iff] at e
    obtain ⟨ds, e1, rfl⟩ := e
    rw [shAll_inv e1] at h
    simp only [RepV] at h
    obtain ⟨a, vs, bs, rfl, rfl, q, r⟩ := h
    exact ⟨a, vs, rfl, SqT.of q, r.shs_inv⟩
  | od ks xs =>
    simp only [Val.top, Option.map_eq_some_iff] at e
    obtain ⟨ds, e1, rfl⟩ := e
    rw [shAll_inv e1] at h
    simp only [RepV] at h
    obtain ⟨a, vs, bs, rfl, rfl, q, l, r⟩ := h
    exact ⟨a, vs, rfl, .inl q, l, r.shs_inv⟩
  | oi c fs xs =>
    simp only [Val.top, Option.map_eq_some_iff] at e
    obtain ⟨ds, e1, rfl⟩ := e
    rw [shAll_inv e1] at h
    simp only [RepV] at h
    obtain ⟨a, dx, vs, bs, rfl, rfl, q, _, l, r⟩ := h
    exact ⟨a, dx, vs, rfl, q, l, r.shs_inv⟩
end

/-! ### operands made ready -/
def prep1 (o : Opv) (η : Env) : Option (D × Env) := match o with
  | .pend x => some (x.d, η)
  | .slot i => match η[i]? with
    | some (some x) => (match x.top with
      | some d => some (d, η)
      | none => some (x.d, η.set i (some (.sh x.d))))
    | _ => none
def prepAll : List Opv → Env → Option (List D × Env)
  | [], η => some ([], η)
  | o :: os, η => match prep1 o η with
    | some (d, η1) => (match prepAll os η1 with
      | some (ds, η2) => some (d :: ds, η2)
      | none => none)
    | none => none
def Links (σ : L2.St) : List Opv → List V → Prop
  | [], vs => vs = []
  | o :: os, vs => ∃ v ws, vs = v :: ws ∧ o.lnk σ v ∧ Links σ os ws
section
variable {G : Gc}
theorem RepTs.mono {H Hs Hs' : Hp} : ∀ {ds : List D} {vs : List V}, RepTs G H Hs ds vs → Sub Hs Hs' → RepTs G H Hs' ds vs
  | [], _, h, _ => h
  | d :: ds, vs, h, s => by
    obtain ⟨v, ws, e, p, q⟩ := h
    exact ⟨v, ws, e, p.mono s, RepTs.mono q s⟩
theorem prep_ok : ∀ {os : List Opv} {vs : List V} {η : Env} {σ : L2.St} {as : List Addr} {H Hs : Hp} {ds : List D} {η' : Env}, Rep G (os.map Opv.p ++ η) (vs.map some ++ σ) as H Hs → Links σ os vs → prepAll os η = some (ds, η') →
    ∃ as' Hs', Rep G η' σ as' H Hs' ∧ Ext as H Hs as' H Hs' ∧ RepTs G H Hs' ds vs
  | [], vs, η, σ, as, H, Hs, ds, η', h, l, e => by
    obtain rfl : vs = [] := l
    simp only [prepAll, Option.some.injEq, Prod.mk.injEq] at e
    obtain ⟨rfl, rfl⟩ := e
    exact ⟨as, Hs, h, Ext.refl, rfl⟩
  | o :: os, vs, η, σ, as, H, Hs, ds, η', h, l, e => by
    obtain ⟨v, ws, rfl, hl, hls⟩ := l
    simp only [prepAll] at e
    cases e1 : prep1 o η with
    | none =>
      rw [e1] at e
      cases e
    | some p =>
      obtain ⟨d, η1⟩ := p
      rw [e1] at e
      simp only at e
      cases e2 : prepAll os η1 with
      | none =>
        rw [e2] at e
        cases e
      | some p2 =>
        obtain ⟨ds2, η2⟩ := p2
        rw [e2] at e
        simp only [Option.some.injEq, Prod.mk.injEq] at e
        obtain ⟨rfl, rfl⟩ := e
        -- the first operand
        have first : ∃ as1 Hs1, Rep G (os.map Opv.p ++ η1) (ws.map some ++ σ) as1 H Hs1 ∧ Ext as H Hs as1 H Hs1 ∧ RepT G H Hs1 d v := by
          cases o with
          | pend x =>
            simp only [prep1, Option.some.injEq, Prod.mk.injEq] at e1
            obtain ⟨rfl, rfl⟩ := e1
            obtain ⟨as1, Hs1, r1, x1, d1⟩ := Rep.freeze0 (x := x) (v := v) (η := os.map Opv.p ++ η) (σ := ws.map some ++ σ) h
            obtain ⟨as2, r2, m2⟩ := r1.pop
            exact ⟨as2, Hs1, r2, x1.less m2, d1.top r1.le⟩
          | slot i =>
            obtain ⟨as0, r0, m0⟩ := Rep.pop (x := none) (v := some v) (η := os.map Opv.p ++ η) (σ := ws.map some ++ σ) h
            have hi : σ[i]? = some (some v) := hl
            have hlen : (ws.map some).length = (os.map Opv.p).length := by
              have : ∀ (os : List Opv) (ws : List V), Links σ os ws → ws.length = os.length := by
                intro os
                induction os with
                | nil => intro ws q; obtain rfl : ws = [] := q; rfl
                | cons o os ih => intro ws q; obtain ⟨v, us, rfl, _, q⟩ := q; simp [ih us q]
              simp [this os ws hls]
            simp only [prep1] at e1
            cases ei : η[i]? with
            | none =>
              rw [ei] at e1
              cases e1
            | some y =>
              cases y with
              | none =>
                rw [ei] at e1
                cases e1
              | some x =>
                rw [ei] at e1
                simp only at e1
                have ei' : (os.map Opv.p ++ η)[(os.map Opv.p).length + i]? = some (some x) := by
                  rw [List.getElem?_append_right (Nat.le_add_right _ _), Nat.add_sub_cancel_left]
                  exact ei
                have hi' : (ws.map some ++ σ)[(os.map Opv.p).length + i]? = some (some v) := by
                  rw [← hlen, List.getElem?_append_right (Nat.le_add_right _ _), Nat.add_sub_cancel_left]
                  exact hi
                cases et : x.top with
                | some d' =>
                  rw [et] at e1
                  simp only [Option.some.injEq, Prod.mk.injEq] at e1
                  obtain ⟨rfl, rfl⟩ := e1
                  obtain ⟨u, b1, b2, b3, eu, _, ru, _⟩ := r0.env.at ei'
                  rw [hi'] at eu
                  have ev : v = u := by simpa using eu
                  subst ev
                  exact ⟨as0, Hs, r0, Ext.refl.less m0, ru.top et r0.le⟩
                | none =>
                  rw [et] at e1
                  simp only [Option.some.injEq, Prod.mk.injEq] at e1
                  obtain ⟨rfl, rfl⟩ := e1
                  obtain ⟨u, as1, Hs1, eu, r1, x1, d1⟩ := r0.freeze ei'
                  rw [hi'] at eu
                  have ev : v = u := by simpa using eu
                  subst ev
                  have es : (os.map Opv.p ++ η).set ((os.map Opv.p).length + i) (some (Val.sh x.d)) = os.map Opv.p ++ η.set i (some (.sh x.d)) := by
                    rw [List.set_append_right _ _ (Nat.le_add_right _ _), Nat.add_sub_cancel_left]
                  rw [es] at r1
                  exact ⟨as1, Hs1, r1, (Ext.refl.less m0).trans x1, d1.top r1.le⟩
        obtain ⟨as1, Hs1, r1, x1, t1⟩ := first
        obtain ⟨as2, Hs2, r2, x2, t2⟩ := prep_ok r1 hls e2
        exact ⟨as2, Hs2, r2, x1.trans x2, v, ws, rfl, t1.mono x2.grow, t2⟩
end

/-! ### built-in operations -/
/-- what is wanted of a new value -/
def FreshQ (G : Gc) (H Hs : Hp) (Q : VK) (x : Val) : Prop := ∀ v b H', Sub H H' → RepV G H' Hs x v b → b.Nodup → (∀ a ∈ b, H a = none) → Q v H'
def PrimOk (G : Gc) (r : List V → Hp → VK → Prop) (g : List D → Option Val) : Prop :=
  ∀ ds x vs H Hs Q, g ds = some x → Le Hs H → RepTs G H Hs ds vs → FreshQ G H Hs Q x → r vs H Q
/-- the operands' values, then the operation -/
def appR (g : List D → Option Val) (os : List Opv) (η : Env) : RO Opv := match prepAll os η with
  | some (ds, η1) => (match g ds with
    | some x => okR (.pend x) η1
    | none => none)
  | none => none
theorem app_ok {G : Gc} {W : WX} {r : List V → Hp → VK → Prop} {g : List D → Option Val} (pr : PrimOk G r g) {os : List Opv} {vs : List V} {η : Env} {σ : L2.St} {as as0 : List Addr} {H Hs H0 Hs0 : Hp} {res : Res Opv} {Q : VK}
    (h : Rep G (os.map Opv.p ++ η) (vs.map some ++ σ) as H Hs) (l : Links σ os vs) (x0 : Ext as0 H0 Hs0 as H Hs) (e : appR g os η = some res) (hp : PostO G W σ as0 H0 Hs0 Q res) : r vs H Q := by
  unfold appR at e
  cases e1 : prepAll os η with
  | none =>
    rw [e1] at e
    cases e
  | some p =>
    obtain ⟨ds, η1⟩ := p
    rw [e1] at e
    simp only at e
    cases e2 : g ds with
    | none =>
      rw [e2] at e
      cases e
    | some x =>
      rw [e2] at e
      obtain rfl : res = .ok (.pend x) η1 := (Option.some.inj e).symm
      obtain ⟨as1, Hs1, r1, x1, t1⟩ := prep_ok h l e1
      refine pr ds x vs H Hs1 Q e2 r1.le t1 fun v b H' k rv nd new => ?_
      obtain ⟨r2, x2⟩ := r1.push k rv nd new
      exact hp v _ H' Hs1 r2 trivial (x0.trans (x1.trans x2))

section
variable {M : Md} {X : Cx} {W : WX} {a b e : Expr} {fa fb : FO} {pos : Pos}
def f1 (fa : FO) (g : List D → Option Val) : FO := fun η => bindR (fa η) fun o η1 => appR g [o] η1
def f2 (fa fb : FO) (g : List D → Option Val) : FO := fun η => bindR (fa η) fun o η1 => bindR (fb η1) fun p η2 => appR g [o, p] η2
theorem ok1 {r : V → Hp → VK → Prop} {g : List D → Option Val} (ha : OkO M X W a fa) (pr : PrimOk M.G (fun vs H Q => ∀ x, vs = [x] → r x H Q) g) (he : ∀ ta, PE X a ta → PE X e (fun σ H Q => ta σ H fun x H1 => r x H1 Q)) : OkO M X W e (f1 fa g) := by
  obtain ⟨t, ht, hh⟩ := ha
  refine ⟨_, he t ht, fun η σ as H Hs res Q hR hf hp => ?_⟩
  rcases bindR_inv hf with ⟨o, η1, e1, e2⟩ | ⟨c, p, η1, e1, rfl⟩
  · refine hh η σ as H Hs _ _ hR e1 fun v as' H' Hs' r1 l1 x1 => ?_
    exact app_ok pr (os := [o]) (vs := [v]) r1 ⟨v, [], rfl, l1, rfl⟩ x1 e2 hp v rfl
  · exact hh η σ as H Hs _ _ hR e1 hp
theorem ok2 {r : V → V → Hp → VK → Prop} {g : List D → Option Val} (ha : OkO M X W a fa) (hb : OkO M X W b fb) (pr : PrimOk M.G (fun vs H Q => ∀ x y, vs = [x, y] → r x y H Q) g)
    (he : ∀ ta tb, PE X a ta → PE X b tb → PE X e (fun σ H Q => ta σ H fun x H1 => tb σ H1 fun y H2 => r x y H2 Q)) : OkO M X W e (f2 fa fb g) := by
  obtain ⟨ta, hta, hha⟩ := ha
  obtain ⟨tb, htb, hhb⟩ := hb.framed
  refine ⟨_, he ta tb hta htb, fun η σ as H Hs res Q hR hf hp => ?_⟩
  rcases bindR_inv hf with ⟨o, η1, e1, e2⟩ | ⟨c, p, η1, e1, rfl⟩
  · refine hha η σ as H Hs _ _ hR e1 fun v as' H' Hs' r1 l1 x1 => ?_
    rcases bindR_inv e2 with ⟨o2, η2, e3, e4⟩ | ⟨c, p, η2, e3, rfl⟩
    · refine hhb [o.p] [some v] η1 σ as' H' Hs' _ _ r1 rfl e3 fun v2 as2 H2 Hs2 r2 l2 x2 => ?_
      exact app_ok pr (os := [o, o2]) (vs := [v, v2]) r2 ⟨v, [v2], rfl, l1, v2, [], rfl, l2, rfl⟩ (x1.trans x2) e4 hp v v2 rfl
    · refine hhb [o.p] [some v] η1 σ as' H' Hs' _ _ r1 rfl e3 fun v2 dx as2 H2 Hs2 r2 hX x2 => ?_
      exact hp v2 dx as2 H2 Hs2 r2 hX (x1.trans x2)
  · exact hha η σ as H Hs _ _ hR e1 hp

/-! ### argument lists -/
abbrev FL := Env → RO (List Opv)
def PostL (G : Gc) (W : WX) (σ : L2.St) (as : List Addr) (H Hs : Hp) (Q : List V → Hp → Prop) : Res (List Opv) → Prop
  | .ok os η' => ∀ vs as' H' Hs', Rep G (os.map Opv.p ++ η') (vs.map some ++ σ) as' H' Hs' → Links σ os vs → Ext as H Hs as' H' Hs' → Q vs H'
  | .exc c p η' => PostX G W σ as H Hs c p η'
def OkL (M : Md) (X : Cx) (W : WX) (es : List Expr) (f : FL) : Prop :=
  ∃ t, PA X es t ∧ ∀ η σ as H Hs r Q, Rep M.G η σ as H Hs → f η = some r → PostL M.G W σ as H Hs Q r → t σ H Q
theorem OkL.framed {es : List Expr} {f : FL} (h : OkL M X W es f) : ∃ t, PA X es t ∧ ∀ π τ η σ as H Hs r Q, Rep M.G (π ++ η) (τ ++ σ) as H Hs → τ.length = π.length → f η = some r →
    (match r with
      | .ok os η' => ∀ vs as' H' Hs', Rep M.G (π ++ (os.map Opv.p ++ η')) (τ ++ (vs.map some ++ σ)) as' H' Hs' → Links σ os vs → Ext as H Hs as' H' Hs' → Q vs H'
      | .exc c p η' => PostX M.G W σ as H Hs c p η') → t σ H Q := by
  obtain ⟨t, ht, hh⟩ := h
  refine ⟨t, ht, fun π τ η σ as H Hs r Q hR hl hf hp => ?_⟩
  obtain ⟨a1, a2, rfl, p, q⟩ := hR.sub hl
  have off : ∀ a ∈ a1, Hs a = none := fun a ha => hR.off a (by simp [ha])
  refine hh η σ a2 H Hs r Q q hf ?_
  cases r with
  | ok o η' =>
    intro v as' H' Hs' hR' hk hx
    obtain ⟨r1, r2⟩ := Rep.frame p hR.nd off hR' hx
    exact hp v _ H' Hs' r1 hk r2
  | exc c pp η' =>
    intro v dx as' H' Hs' hR' hX hx
    exact hp v dx as' H' Hs' hR' hX (hx.more a1)
def fNil : FL := fun η => okR [] η
def fCons (f : FO) (g : FL) : FL := fun η => bindR (f η) fun o η1 => bindR (g η1) fun os η2 => okR (o :: os) η2
theorem okL_nil : OkL M X W [] fNil := by
  refine ⟨_, pa_nil, fun η σ as H Hs r Q hR hf hp => ?_⟩
  obtain rfl : r = .ok [] η := (Option.some.inj hf).symm
  exact hp [] as H Hs hR rfl Ext.refl
theorem okL_cons {es : List Expr} {g : FL} (ha : OkO M X W a fa) (hs : OkL M X W es g) (hst : starEach (a :: es) X.env = (false, eval a X.env) :: starEach es X.env) : OkL M X W (a :: es) (fCons fa g) := by
  obtain ⟨ta, hta, hha⟩ := ha
  obtain ⟨ts, hts, hhs⟩ := hs.framed
  refine ⟨_, pa_cons hta hts hst, fun η σ as H Hs res Q hR hf hp => ?_⟩
  rcases bindR_inv hf with ⟨o, η1, e1, e2⟩ | ⟨c, p, η1, e1, rfl⟩
  · refine hha η σ as H Hs _ _ hR e1 fun v as' H' Hs' r1 l1 x1 => ?_
    rcases bindR_inv e2 with ⟨os, η2, e3, e4⟩ | ⟨c, p, η2, e3, rfl⟩
    · obtain rfl : res = .ok (o :: os) η2 := (Option.some.inj e4).symm
      refine hhs [o.p] [some v] η1 σ as' H' Hs' _ _ r1 rfl e3 fun vs as2 H2 Hs2 r2 l2 x2 => ?_
      exact hp (v :: vs) as2 H2 Hs2 r2 ⟨v, vs, rfl, l1, l2⟩ (x1.trans x2)
    · refine hhs [o.p] [some v] η1 σ as' H' Hs' _ _ r1 rfl e3 fun v2 dx as2 H2 Hs2 r2 hX x2 => ?_
      exact hp v2 dx as2 H2 Hs2 r2 hX (x1.trans x2)
  · exact hha η σ as H Hs _ _ hR e1 hp
def fn (g : FL) (p : List D → Option Val) : FO := fun η => bindR (g η) fun os η1 => appR p os η1
theorem okN {es : List Expr} {g : FL} {r : List V → Hp → VK → Prop} {p : List D → Option Val} (ha : OkL M X W es g) (pr : PrimOk M.G r p) (he : ∀ t, PA X es t → PE X e (fun σ H Q => t σ H fun vs H1 => r vs H1 Q)) : OkO M X W e (fn g p) := by
  obtain ⟨t, ht, hh⟩ := ha
  refine ⟨_, he t ht, fun η σ as H Hs res Q hR hf hp => ?_⟩
  rcases bindR_inv hf with ⟨os, η1, e1, e2⟩ | ⟨c, p, η1, e1, rfl⟩
  · refine hh η σ as H Hs _ _ hR e1 fun vs as' H' Hs' r1 l1 x1 => ?_
    exact app_ok pr r1 l1 x1 e2 hp
  · exact hh η σ as H Hs _ _ hR e1 hp

/-! ### leaves -/
def fLit (d : D) : FO := fun η => okR (.pend (.sh d)) η
theorem ok_lit {d : D} {v : V} (h : PE X e (tC v)) (r : ∀ Hs, RepD M.G Hs d v) : OkO M X W e (fLit d) := by
  refine ⟨_, h, fun η σ as H Hs res Q hR hf hp => ?_⟩
  obtain rfl : res = .ok (.pend (.sh d)) η := (Option.some.inj hf).symm
  exact hp v as H Hs (hR.push_sh (r Hs)) trivial Ext.refl
def fVar (i : Nat) : FO := fun η => match η[i]? with
  | some (some _) => okR (.slot i) η
  | _ => none
theorem RepO.none_top {G : Gc} {η : Env} {σ : L2.St} {as : List Addr} {H Hs : Hp} {s : Option V} (h : Rep G η σ as H Hs) : Rep G (none :: η) (s :: σ) as H Hs := ⟨h.le, ⟨s, σ, rfl, h.env⟩, h.nd, h.off⟩
theorem ok_var {i : Nat} (h : PE X e (tVar i)) : OkO M X W e (fVar i) := by
  refine ⟨_, h, fun η σ as H Hs res Q hR hf hp => ?_⟩
  unfold fVar at hf
  cases ei : η[i]? with
  | none =>
    rw [ei] at hf
    cases hf
  | some y =>
    cases y with
    | none =>
      rw [ei] at hf
      cases hf
    | some x =>
      rw [ei] at hf
      obtain rfl : res = .ok (.slot i) η := (Option.some.inj hf).symm
      obtain ⟨v, _, _, _, ev, _⟩ := hR.env.at ei
      exact ⟨v, ev, hp v as H Hs (RepO.none_top hR) ev Ext.refl⟩
end

/-! ### escaping -/
def Opv.up (k : Nat) : Opv → Opv
  | .pend x => .pend x
  | .slot i => .slot (k + i)
theorem Opv.up_p (k : Nat) (o : Opv) : (o.up k).p = o.p := by cases o <;> rfl
def esc1 (o : Opv) (η : Env) : Option (Val × Env) := match o with
  | .pend x => some (x, η)
  | .slot i => match η[i]? with
    | some (some x) => some (.sh x.d, η.set i (some (.sh x.d)))
    | _ => none
def escAll : List Opv → Env → Option (List Val × Env)
  | [], η => some ([], η)
  | o :: os, η => match esc1 o η with
    | some (x, η1) => (match escAll os η1 with
      | some (xs, η2) => some (x :: xs, η2)
      | none => none)
    | none => none
theorem Links.length {σ : L2.St} : ∀ {os : List Opv} {ws : List V}, Links σ os ws → ws.length = os.length
  | [], ws, q => by obtain rfl : ws = [] := q; rfl
  | o :: os, ws, q => by
    obtain ⟨v, us, rfl, _, q⟩ := q
    simp [Links.length q]
section
variable {G : Gc}
/-- one operand, at any depth of what is pending -/
theorem esc1_ok {π : Env} {τ : L2.St} {o : Opv} {v : V} {η : Env} {σ : L2.St} {as : List Addr} {H Hs : Hp} {x : Val} {η' : Env} (h : Rep G (π ++ (o.p :: η)) (τ ++ (some v :: σ)) as H Hs) (hl : τ.length = π.length) (l : o.lnk σ v) (e : esc1 o η = some (x, η')) :
    ∃ as' Hs', Rep G (π ++ (some x :: η')) (τ ++ (some v :: σ)) as' H Hs' ∧ Ext as H Hs as' H Hs' := by
  cases o with
  | pend y =>
    simp only [esc1, Option.some.injEq, Prod.mk.injEq] at e
    obtain ⟨rfl, rfl⟩ := e
    exact ⟨as, Hs, h, Ext.refl⟩
  | slot i =>
    simp only [esc1] at e
    cases ei : η[i]? with
    | none =>
      rw [ei] at e
      cases e
    | some y =>
      cases y with
      | none =>
        rw [ei] at e
        cases e
      | some z =>
        rw [ei] at e
        simp only [Option.some.injEq, Prod.mk.injEq] at e
        obtain ⟨rfl, rfl⟩ := e
        have ei' : (π ++ (none :: η))[π.length + (i + 1)]? = some (some z) := by
          rw [List.getElem?_append_right (Nat.le_add_right _ _), Nat.add_sub_cancel_left]
          simpa using ei
        obtain ⟨u, as1, Hs1, eu, r1, x1, d1⟩ := Rep.freeze (η := π ++ (none :: η)) h ei'
        have hu : u = v := by
          rw [← hl, List.getElem?_append_right (Nat.le_add_right _ _), Nat.add_sub_cancel_left] at eu
          have e3 : σ[i]? = some (some u) := by simpa using eu
          have e4 : σ[i]? = some (some v) := l
          rw [e4] at e3
          simpa using e3.symm
        subst hu
        have es : (π ++ (none :: η)).set (π.length + (i + 1)) (some (Val.sh z.d)) = π ++ (none :: η.set i (some (.sh z.d))) := by
          rw [List.set_append_right _ _ (Nat.le_add_right _ _), Nat.add_sub_cancel_left]
          rfl
        rw [es] at r1
        -- the value of the slot is shared: it stands on top too
        obtain ⟨b1, b2, rfl, p1, q1⟩ := Rep.sub r1 hl
        have q2 : Rep G (some (.sh z.d) :: η.set i (some (.sh z.d))) (some u :: σ) b2 H Hs1 := by
          obtain ⟨b3, q3, m3⟩ := q1.pop
          obtain ⟨t, σ', e5, q4⟩ := q1.env
          obtain ⟨rfl, rfl⟩ := List.cons.inj e5
          exact ⟨q1.le, ⟨u, σ, [], b2, rfl, rfl, RepV.sh_iff.mpr ⟨rfl, d1⟩, q4⟩, q1.nd, q1.off⟩
        exact ⟨b1 ++ b2, Hs1, ⟨r1.le, p1.join q2.env, r1.nd, r1.off⟩, x1⟩
theorem escAll_ok : ∀ {os : List Opv} {π : Env} {τ : L2.St} {vs : List V} {η : Env} {σ : L2.St} {as : List Addr} {H Hs : Hp} {xs : List Val} {η' : Env}, Rep G (π ++ (os.map Opv.p ++ η)) (τ ++ (vs.map some ++ σ)) as H Hs → τ.length = π.length → Links σ os vs → escAll os η = some (xs, η') →
    ∃ as' Hs', Rep G (π ++ (xs.map some ++ η')) (τ ++ (vs.map some ++ σ)) as' H Hs' ∧ Ext as H Hs as' H Hs'
  | [], π, τ, vs, η, σ, as, H, Hs, xs, η', h, hl, l, e => by
    simp only [escAll, Option.some.injEq, Prod.mk.injEq] at e
    obtain ⟨rfl, rfl⟩ := e
    exact ⟨as, Hs, h, Ext.refl⟩
  | o :: os, π, τ, vs, η, σ, as, H, Hs, xs, η', h, hl, l, e => by
    obtain ⟨v, ws, rfl, l1, l2⟩ := l
    simp only [escAll] at e
    cases e1 : esc1 o η with
    | none =>
      rw [e1] at e
      cases e
    | some p =>
      obtain ⟨x, η1⟩ := p
      rw [e1] at e
      simp only at e
      cases e2 : escAll os η1 with
      | none =>
        rw [e2] at e
        cases e
      | some p2 =>
        obtain ⟨xs2, η2⟩ := p2
        rw [e2] at e
        simp only [Option.some.injEq, Prod.mk.injEq] at e
        obtain ⟨rfl, rfl⟩ := e
        -- move the rest's operands ahead
        have e1' : esc1 (o.up (os.map Opv.p).length) (os.map Opv.p ++ η) = some (x, os.map Opv.p ++ η1) := by
          cases o with
          | pend y =>
            simp only [esc1, Opv.up, Option.some.injEq, Prod.mk.injEq] at e1 ⊢
            exact ⟨e1.1, by rw [e1.2]⟩
          | slot i =>
            simp only [esc1, Opv.up] at e1 ⊢
            rw [List.getElem?_append_right (Nat.le_add_right _ _), Nat.add_sub_cancel_left]
            cases ei : η[i]? with
            | none =>
              rw [ei] at e1
              cases e1
            | some y =>
              cases y with
              | none =>
                rw [ei] at e1
                cases e1
              | some z =>
                rw [ei] at e1
                simp only [Option.some.injEq, Prod.mk.injEq] at e1 ⊢
                refine ⟨e1.1, ?_⟩
                rw [List.set_append_right _ _ (Nat.le_add_right _ _), Nat.add_sub_cancel_left, e1.2]
        have lw := l2.length
        obtain ⟨as1, Hs1, r1, x1⟩ := esc1_ok (π := π) (τ := τ) (o := o.up (os.map Opv.p).length) (v := v) (η := os.map Opv.p ++ η) (σ := ws.map some ++ σ) (by rw [Opv.up_p]; exact h) hl (by
          cases o with
          | pend y => trivial
          | slot i =>
            show (ws.map some ++ σ)[(os.map Opv.p).length + i]? = some (some v)
            rw [show (os.map Opv.p).length = (ws.map (some : V → Option V)).length by simp [lw], List.getElem?_append_right (Nat.le_add_right _ _), Nat.add_sub_cancel_left]
            exact l1) e1'
        have r1' : Rep G ((π ++ [some x]) ++ (os.map Opv.p ++ η1)) ((τ ++ [some v]) ++ (ws.map some ++ σ)) as1 H Hs1 := by simpa using r1
        obtain ⟨as2, Hs2, r2, x2⟩ := escAll_ok r1' (by simp [hl]) l2 e2
        exact ⟨as2, Hs2, by simpa using r2, x1.trans x2⟩
theorem RepO.vals : ∀ {xs : List Val} {vs : List V} {as : List Addr} {H Hs : Hp}, RepO G H Hs (xs.map some) (vs.map some) as → RepVs G H Hs xs vs as
  | [], vs, as, H, Hs, h => by
    obtain ⟨h1, h2⟩ := h
    exact RepVs.nil_iff.mpr ⟨by simpa using h1, h2⟩
  | x :: xs, [], as, H, Hs, h => by
    obtain ⟨v, σ', a1, a2, e, _⟩ := h
    cases e
  | x :: xs, w :: vs, as, H, Hs, h => by
    obtain ⟨v, σ', a1, a2, e, rfl, p, q⟩ := h
    obtain ⟨e1, rfl⟩ := List.cons.inj e
    obtain rfl : w = v := Option.some.inj e1
    exact RepVs.cons p (RepO.vals q)
theorem RepVs.slots : ∀ {xs : List Val} {vs : List V} {as : List Addr} {H Hs : Hp}, RepVs G H Hs xs vs as → RepO G H Hs (xs.map some) (vs.map some) as
  | [], vs, as, H, Hs, h => by
    obtain ⟨h1, h2⟩ := RepVs.nil_iff.mp h
    subst h1 h2
    exact ⟨rfl, rfl⟩
  | x :: xs, vs, as, H, Hs, h => by
    obtain ⟨v, ws, a1, a2, rfl, rfl, p, q⟩ := h.uncons
    exact ⟨v, ws.map some, a1, a2, rfl, rfl, p, RepVs.slots q⟩
end
section
variable {M : Md} {X : Cx} {W : WX} {pos : Pos} {es : List Expr} {g : FL}
/-- a display: the values as they are -/
def fDisp (k : List Val → Val) (g : FL) : FO := fun η => bindR (g η) fun os η1 => match escAll os η1 with
  | some (xs, η2) => if xs.length ≤ sizeLine then okR (.pend (k xs)) η2 else none
  | none => none
theorem ok_disp {e : Expr} {k : List Val → Val} {o : List V → HO} (hk : ∀ G H Hs xs vs bs p, RepVs G H Hs xs vs bs → H p = some (o vs) → RepV G H Hs (k xs) (.ref p) (p :: bs))
    (ha : OkL M X W es g) (he : ∀ t, PA X es t → PE X e (fun σ H Q => t σ H fun xs H1 => xs.length ≤ sizeLine ∧ ∀ p, H1 p = none → Q (.ref p) (upd H1 p (o xs)))) : OkO M X W e (fDisp k g) := by
  obtain ⟨t, ht, hh⟩ := ha
  refine ⟨_, he t ht, fun η σ as H Hs res Q hR hf hp => ?_⟩
  rcases bindR_inv hf with ⟨os, η1, e1, e2⟩ | ⟨c, p, η1, e1, rfl⟩
  · refine hh η σ as H Hs _ _ hR e1 fun vs as' H' Hs' r1 l1 x1 => ?_
    cases e3 : escAll os η1 with
    | none =>
      rw [e3] at e2
      cases e2
    | some p =>
      obtain ⟨xs, η2⟩ := p
      rw [e3] at e2
      simp only at e2
      by_cases hz : xs.length ≤ sizeLine
      · rw [if_pos hz] at e2
        obtain rfl : res = .ok (.pend (k xs)) η2 := (Option.some.inj e2).symm
        obtain ⟨as2, Hs2, r2, x2⟩ := escAll_ok (π := []) (τ := []) r1 rfl l1 e3
        have r2 : Rep M.G (xs.map some ++ η2) (vs.map some ++ σ) as2 H' Hs2 := r2
        have ll : xs.length = vs.length := by
          have := r2.env.length
          have l0 := hR.env.length
          have h3 : ∀ os η xs η', escAll os η = some (xs, η') → xs.length = os.length := by
            intro os
            induction os with
            | nil => intro η xs η' h; simp only [escAll, Option.some.injEq, Prod.mk.injEq] at h; rw [← h.1]; rfl
            | cons o os ih =>
              intro η xs η' h
              simp only [escAll] at h
              cases q1 : esc1 o η with
              | none => rw [q1] at h; cases h
              | some z =>
                obtain ⟨y, ηy⟩ := z
                rw [q1] at h
                simp only at h
                cases q2 : escAll os ηy with
                | none => rw [q2] at h; cases h
                | some z2 =>
                  obtain ⟨ys, ηz⟩ := z2
                  rw [q2] at h
                  simp only [Option.some.injEq, Prod.mk.injEq] at h
                  rw [← h.1]
                  simp [ih _ _ _ q2]
          rw [h3 _ _ _ _ e3, l1.length]
        refine ⟨by rw [← ll]; exact hz, fun p np => ?_⟩
        obtain ⟨b1, b2, rfl, p1, q1⟩ := r2.sub (by simp [ll])
        have rv := RepO.vals p1
        -- the new object
        have k1 : Sub H' (upd H' p (o vs)) := fun c ob ec => by
          rw [upd_ne (ne_of_none ec np)]
          exact ec
        have rv' := rv.stay (H' := upd H' p (o vs)) (fun a _ ob ea => k1 a ob ea) Le.refl
        have rk := hk M.G (upd H' p (o vs)) Hs2 xs vs b1 p rv' upd_same
        obtain ⟨n1, n2, n3⟩ := List.nodup_append.mp r2.nd
        have hpn : p ∉ b1 := fun z => rv.there p z np
        have hpn2 : p ∉ b2 := fun z => q1.env.there p z np
        refine hp (.ref p) (p :: b1 ++ b2) _ Hs2 ⟨fun c ob ec => ?_, ⟨.ref p, σ, p :: b1, b2, rfl, rfl, rk, q1.env.stay (fun a _ ob ea => k1 a ob ea) Le.refl⟩, ?_, fun a ha => ?_⟩ trivial ((x1.trans x2).trans ⟨fun c ob ec _ => k1 c ob ec, Sub.refl, fun c z => .inl z, fun a ha => ?_⟩)
        · rcases r2.le c ob ec with z | ⟨oo, kvs, z1, z2⟩
          · exact .inl (k1 c ob z)
          · exact .inr ⟨oo, kvs, z1, k1 c _ z2⟩
        · show (p :: (b1 ++ b2)).Nodup
          refine List.nodup_cons.mpr ⟨fun z => ?_, r2.nd⟩
          rcases List.mem_append.mp z with z | z
          · exact hpn z
          · exact hpn2 z
        · rcases List.mem_cons.mp ha with rfl | ha
          · exact r2.le.none np
          · exact r2.off a ha
        · rcases List.mem_cons.mp ha with rfl | ha
          · exact .inr np
          · exact .inl ha
      · rw [if_neg hz] at e2
        cases e2
  · exact hh η σ as H Hs _ _ hR e1 hp
theorem ok_list (ha : OkL M X W es g) : OkO M X W (.List es pos) (fDisp .ol g) :=
  ok_disp (o := .lst) (fun G H Hs xs vs bs p r e => by simp only [RepV]; exact ⟨p, vs, bs, rfl, rfl, e, r⟩) ha fun t ht => pe_lst ht
theorem ok_tup {x1} (ha : OkL M X W es g) : OkO M X W (.Tuple es x1 pos) (fDisp .ot g) :=
  ok_disp (o := .tup) (fun G H Hs xs vs bs p r e => by simp only [RepV]; exact ⟨p, vs, bs, rfl, rfl, e, r⟩) ha fun t ht => pe_tup ht
end
end Wp
end
section
set_option Elab.async false
set_option linter.all false
set_option maxRecDepth 100000
/-! WpD: calls of defs over data. -/
namespace Wp
open PySem PySem.Spec PyProof.Rows L2

section
variable {G : Gc} {H Hs : Hp}
/-- a value put into an empty place -/
theorem RepO.put : ∀ {η : Env} {σ : L2.St} {as : List Addr} {j : Nat} {x : Val} {v : V} {b : List Addr}, RepO G H Hs η σ as → η[j]? = some none → σ[j]? = some (some v) → RepV G H Hs x v b →
    ∃ a1 a3, as = a1 ++ a3 ∧ RepO G H Hs (η.set j (some x)) σ (a1 ++ (b ++ a3))
  | [], _, _, j, _, _, _, _, e, _, _ => by simp at e
  | none :: η, σ, as, 0, x, v, b, h, _, ev, r => by
    obtain ⟨t, σ', rfl, q⟩ := h
    have e : t = some v := by simpa using ev
    subst e
    exact ⟨[], as, rfl, v, σ', b, as, rfl, rfl, r, q⟩
  | some z :: η, σ, as, 0, x, v, b, h, e, _, _ => by simp at e
  | none :: η, σ, as, j + 1, x, v, b, h, e, ev, r => by
    obtain ⟨t, σ', rfl, q⟩ := h
    obtain ⟨a1, a3, rfl, q2⟩ := RepO.put (j := j) q (by simpa using e) (by simpa using ev) r
    exact ⟨a1, a3, rfl, t, σ', rfl, q2⟩
  | some z :: η, σ, as, j + 1, x, v, b, h, e, ev, r => by
    obtain ⟨w, σ', b1, b2, rfl, rfl, p, q⟩ := h
    obtain ⟨a1, a3, rfl, q2⟩ := RepO.put (j := j) q (by simpa using e) (by simpa using ev) r
    exact ⟨b1 ++ a1, a3, by simp, w, σ', b1, a1 ++ (b ++ a3), rfl, by simp, p, q2⟩
theorem set_same {σ : L2.St} {i : Nat} {s : Option V} (e : σ[i]? = some s) : σ.set i s = σ := by
  refine List.ext_getElem? fun j => ?_
  by_cases hj : j = i
  · subst hj
    rw [List.getElem?_set_self (List.getElem?_eq_some_iff.mp e).1, e]
  · rw [List.getElem?_set_ne (Ne.symm hj)]
/-- a value moves from one place to an empty one that holds the same -/
theorem Rep.move {η : Env} {σ : L2.St} {as : List Addr} {i j : Nat} {x : Val} {v : V} (h : Rep G η σ as H Hs) (ei : η[i]? = some (some x)) (ej : η[j]? = some none) (vi : σ[i]? = some (some v)) (vj : σ[j]? = some (some v)) :
    ∃ as', as'.Perm as ∧ Rep G ((η.set i none).set j (some x)) σ as' H Hs := by
  obtain ⟨u, a1, a2, a3, eu, rfl, r, k⟩ := h.env.at ei
  have hu : u = v := by
    rw [vi] at eu
    simpa using eu.symm
  subst hu
  have k1 := k H Hs none (some u) [] rfl (fun a _ o e => e) Le.refl
  rw [set_same vi] at k1
  have hij : i ≠ j := fun z => by
    rw [z, ej] at ei
    cases ei
  obtain ⟨b1, b3, e1, k2⟩ := k1.put (by rw [List.getElem?_set_ne hij]; exact ej) vj r
  have p1 : (b1 ++ (a2 ++ b3)).Perm (a1 ++ (a2 ++ a3)) := by
    have q1 : (b1 ++ (a2 ++ b3)).Perm (a2 ++ (b1 ++ b3)) := List.perm_append_comm_assoc _ _ _
    have q2 : (a1 ++ (a2 ++ a3)).Perm (a2 ++ (a1 ++ a3)) := List.perm_append_comm_assoc _ _ _
    have e2 : b1 ++ b3 = a1 ++ a3 := by simpa using e1.symm
    rw [e2] at q1
    exact q1.trans q2.symm
  exact ⟨_, p1, h.le, k2, p1.nodup_iff.mpr h.nd, fun a ha => h.off a (p1.mem_iff.mp ha)⟩
theorem Rep.swap {A B : Env} {τ σ : L2.St} {as : List Addr} (h : Rep G (A ++ B) (τ ++ σ) as H Hs) (hl : τ.length = A.length) : ∃ as', as'.Perm as ∧ Rep G (B ++ A) (σ ++ τ) as' H Hs := by
  obtain ⟨a1, a2, rfl, p, q⟩ := h.sub hl
  exact ⟨a2 ++ a1, List.perm_append_comm, h.le, q.env.join p, List.perm_append_comm.nodup_iff.mpr h.nd, fun a ha => h.off a (List.perm_append_comm.mem_iff.mp ha)⟩
theorem Ext.perm {as bs as' : List Addr} {H' Hs' : Hp} (x : Ext as H Hs as' H' Hs') (p : bs.Perm as) : Ext bs H Hs as' H' Hs' :=
  ⟨fun c o e hc => x.keep c o e fun z => hc (p.mem_iff.mpr z), x.grow, fun c z => (x.new c z).imp id (Or.imp id p.mem_iff.mpr), fun a ha => (x.anew a ha).imp p.mem_iff.mpr id⟩
theorem Ext.permR {as as' bs : List Addr} {H' Hs' : Hp} (x : Ext as H Hs as' H' Hs') (p : bs.Perm as') : Ext as H Hs bs H' Hs' := x.less fun a ha => p.mem_iff.mp ha
theorem Ext.of_perm {as bs : List Addr} (p : bs.Perm as) : Ext as H Hs bs H Hs := Ext.refl.permR p
end

/-! ### arguments handed over -/
def arg1 (o : Opv) (η : Env) : Option (Val × Env) := match o with
  | .pend x => some (x, η)
  | .slot i => match η[i]? with
    | some (some (.sh d)) => some (.sh d, η)
    | some (some x) => some (x, η.set i none)
    | _ => none
/-- at a place that the def keeps: handed over and back; else shared -/
def pass1 (b : Bool) (o : Opv) (η : Env) : Option (Val × Env) := if b then arg1 o η else match esc1 o η with
  | some (x, η1) => some (.sh x.d, η1)
  | none => none
def argAll : List Bool → List Opv → Env → Option (List Val × Env)
  | _, [], η => some ([], η)
  | ms, o :: os, η => match pass1 (ms.headD true) o η with
    | some (x, η1) => (match argAll ms.tail os η1 with
      | some (xs, η2) => some (x :: xs, η2)
      | none => none)
    | none => none
/-- behind the call: what was handed over comes back -/
def back1 (o : Opv) (y : Option Val) (η : Env) : Env := match o with
  | .pend _ => η
  | .slot i => match η[i]? with
    | some none => η.set i y
    | _ => η
def backAll : List Opv → Env → Env → Env
  | o :: os, y :: θ, η => backAll os θ (back1 o y η)
  | _, _, η => η
section
variable {G : Gc} {H Hs : Hp}
theorem arg1_ok {π : Env} {τ : L2.St} {o : Opv} {v : V} {η : Env} {σ : L2.St} {as : List Addr} {x : Val} {η' : Env} (h : Rep G (π ++ (o.p :: η)) (τ ++ (some v :: σ)) as H Hs) (hl : τ.length = π.length) (l : o.lnk σ v) (e : arg1 o η = some (x, η')) :
    ∃ as', as'.Perm as ∧ Rep G (π ++ (some x :: η')) (τ ++ (some v :: σ)) as' H Hs := by
  cases o with
  | pend y =>
    simp only [arg1, Option.some.injEq, Prod.mk.injEq] at e
    obtain ⟨rfl, rfl⟩ := e
    exact ⟨as, .refl _, h⟩
  | slot i =>
    simp only [arg1] at e
    cases ei : η[i]? with
    | none =>
      rw [ei] at e
      cases e
    | some y =>
      cases y with
      | none =>
        rw [ei] at e
        cases e
      | some z =>
        have ei' : (π ++ (none :: η))[π.length + (i + 1)]? = some (some z) := by
          rw [List.getElem?_append_right (Nat.le_add_right _ _), Nat.add_sub_cancel_left]
          simpa using ei
        have ej' : (π ++ (none :: η))[π.length]? = some none := by simp
        have vi : (τ ++ (some v :: σ))[π.length + (i + 1)]? = some (some v) := by
          rw [← hl, List.getElem?_append_right (Nat.le_add_right _ _), Nat.add_sub_cancel_left]
          have l' : σ[i]? = some (some v) := l
          simpa using l'
        have vj : (τ ++ (some v :: σ))[π.length]? = some (some v) := by
          rw [← hl]
          simp
        have es : ∀ y : Option Val, ((π ++ (none :: η)).set (π.length + (i + 1)) none).set π.length y = π ++ (y :: η.set i none) := fun y => by
          rw [List.set_append_right _ _ (Nat.le_add_right _ _), Nat.add_sub_cancel_left]
          rw [List.set_append_right _ _ (Nat.le_refl _), Nat.sub_self]
          rfl
        have own : η' = η.set i none → x = z → ∃ as', as'.Perm as ∧ Rep G (π ++ (some x :: η')) (τ ++ (some v :: σ)) as' H Hs := fun e1 e2 => by
          subst e1 e2
          obtain ⟨as', p, q⟩ := Rep.move (η := π ++ (none :: η)) h ei' ej' vi vj
          rw [es] at q
          exact ⟨as', p, q⟩
        cases z with
        | sh d =>
          rw [ei] at e
          simp only [Option.some.injEq, Prod.mk.injEq] at e
          obtain ⟨rfl, rfl⟩ := e
          obtain ⟨u, a1, a2, a3, eu, rfl, r, k⟩ := RepO.at (η := π ++ (none :: η)) h.env ei'
          rw [vi] at eu
          have hu : v = u := by simpa using eu
          subst hu
          obtain ⟨rfl, rd⟩ := RepV.sh_iff.mp r
          obtain ⟨b1, b3, e1, q⟩ := RepO.put (η := π ++ (none :: η)) h.env ej' vj (RepV.sh_iff.mpr ⟨rfl, rd⟩)
          rw [List.set_append_right _ _ (Nat.le_refl _), Nat.sub_self] at q
          simp only [List.nil_append] at e1 q
          rw [← e1] at q
          exact ⟨_, .refl _, h.le, q, h.nd, h.off⟩
        | ol xs =>
          rw [ei] at e
          simp only [Option.some.injEq, Prod.mk.injEq] at e
          exact own e.2.symm e.1.symm
        | ot xs =>
          rw [ei] at e
          simp only [Option.some.injEq, Prod.mk.injEq] at e
          exact own e.2.symm e.1.symm
        | od ks xs =>
          rw [ei] at e
          simp only [Option.some.injEq, Prod.mk.injEq] at e
          exact own e.2.symm e.1.symm
        | oi c fs xs =>
          rw [ei] at e
          simp only [Option.some.injEq, Prod.mk.injEq] at e
          exact own e.2.symm e.1.symm
theorem arg1_up {o : Opv} {A η : Env} {x : Val} {η' : Env} (e : arg1 o η = some (x, η')) : arg1 (o.up A.length) (A ++ η) = some (x, A ++ η') := by
  cases o with
  | pend y =>
    simp only [arg1, Opv.up, Option.some.injEq, Prod.mk.injEq] at e ⊢
    exact ⟨e.1, by rw [e.2]⟩
  | slot i =>
    simp only [arg1, Opv.up] at e ⊢
    rw [List.getElem?_append_right (Nat.le_add_right _ _), Nat.add_sub_cancel_left]
    cases ei : η[i]? with
    | none =>
      rw [ei] at e
      cases e
    | some y =>
      cases y with
      | none =>
        rw [ei] at e
        cases e
      | some z =>
        rw [ei] at e
        cases z <;> simp only [Option.some.injEq, Prod.mk.injEq] at e ⊢ <;> refine ⟨e.1, ?_⟩ <;> first | (rw [← e.2]; done) | (rw [List.set_append_right _ _ (Nat.le_add_right _ _), Nat.add_sub_cancel_left, e.2])
theorem esc1_up {o : Opv} {A η : Env} {x : Val} {η' : Env} (e : esc1 o η = some (x, η')) : esc1 (o.up A.length) (A ++ η) = some (x, A ++ η') := by
  cases o with
  | pend y =>
    simp only [esc1, Opv.up, Option.some.injEq, Prod.mk.injEq] at e ⊢
    exact ⟨e.1, by rw [e.2]⟩
  | slot i =>
    simp only [esc1, Opv.up] at e ⊢
    rw [List.getElem?_append_right (Nat.le_add_right _ _), Nat.add_sub_cancel_left]
    cases ei : η[i]? with
    | none =>
      rw [ei] at e
      cases e
    | some y =>
      cases y with
      | none =>
        rw [ei] at e
        cases e
      | some z =>
        rw [ei] at e
        simp only [Option.some.injEq, Prod.mk.injEq] at e ⊢
        refine ⟨e.1, ?_⟩
        rw [List.set_append_right _ _ (Nat.le_add_right _ _), Nat.add_sub_cancel_left, e.2]
theorem pass1_up {b : Bool} {o : Opv} {A η : Env} {x : Val} {η' : Env} (e : pass1 b o η = some (x, η')) : pass1 b (o.up A.length) (A ++ η) = some (x, A ++ η') := by
  cases b with
  | true => exact arg1_up e
  | false =>
    simp only [pass1, Bool.false_eq_true, if_false] at e ⊢
    cases e1 : esc1 o η with
    | none =>
      rw [e1] at e
      cases e
    | some q =>
      obtain ⟨y, η1⟩ := q
      rw [e1] at e
      simp only [Option.some.injEq, Prod.mk.injEq] at e
      obtain ⟨rfl, rfl⟩ := e
      rw [esc1_up e1]
theorem pass1_ok {b : Bool} {π : Env} {τ : L2.St} {o : Opv} {v : V} {η : Env} {σ : L2.St} {as : List Addr} {x : Val} {η' : Env} (h : Rep G (π ++ (o.p :: η)) (τ ++ (some v :: σ)) as H Hs) (hl : τ.length = π.length) (l : o.lnk σ v) (e : pass1 b o η = some (x, η')) :
    ∃ as' Hs', Rep G (π ++ (some x :: η')) (τ ++ (some v :: σ)) as' H Hs' ∧ Ext as H Hs as' H Hs' := by
  cases b with
  | true =>
    obtain ⟨as', p, r⟩ := arg1_ok h hl l e
    exact ⟨as', Hs, r, Ext.of_perm p⟩
  | false =>
    simp only [pass1, Bool.false_eq_true, if_false] at e
    cases e1 : esc1 o η with
    | none =>
      rw [e1] at e
      cases e
    | some q =>
      obtain ⟨y, η1⟩ := q
      rw [e1] at e
      simp only [Option.some.injEq, Prod.mk.injEq] at e
      obtain ⟨rfl, rfl⟩ := e
      obtain ⟨as1, Hs1, r1, x1⟩ := esc1_ok h hl l e1
      have ei : (π ++ (some y :: η1))[π.length]? = some (some y) := by simp
      obtain ⟨u, as2, Hs2, eu, r2, x2, _⟩ := r1.freeze ei
      have es : (π ++ (some y :: η1)).set π.length (some (Val.sh y.d)) = π ++ (some (.sh y.d) :: η1) := by
        rw [List.set_append_right _ _ (Nat.le_refl _), Nat.sub_self]
        rfl
      rw [es] at r2
      exact ⟨as2, Hs2, r2, x1.trans x2⟩
theorem argAll_ok : ∀ {os : List Opv} {ms : List Bool} {π : Env} {τ : L2.St} {vs : List V} {η : Env} {σ : L2.St} {as : List Addr} {Hs : Hp} {xs : List Val} {η' : Env}, Rep G (π ++ (os.map Opv.p ++ η)) (τ ++ (vs.map some ++ σ)) as H Hs → τ.length = π.length → Links σ os vs → argAll ms os η = some (xs, η') →
    ∃ as' Hs', Rep G (π ++ (xs.map some ++ η')) (τ ++ (vs.map some ++ σ)) as' H Hs' ∧ Ext as H Hs as' H Hs'
  | [], ms, π, τ, vs, η, σ, as, Hs, xs, η', h, hl, l, e => by
    simp only [argAll, Option.some.injEq, Prod.mk.injEq] at e
    obtain ⟨rfl, rfl⟩ := e
    exact ⟨as, Hs, h, Ext.refl⟩
  | o :: os, ms, π, τ, vs, η, σ, as, Hs, xs, η', h, hl, l, e => by
    obtain ⟨v, ws, rfl, l1, l2⟩ := l
    simp only [argAll] at e
    cases e1 : pass1 (ms.headD true) o η with
    | none =>
      rw [e1] at e
      cases e
    | some p =>
      obtain ⟨x, η1⟩ := p
      rw [e1] at e
      simp only at e
      cases e2 : argAll ms.tail os η1 with
      | none =>
        rw [e2] at e
        cases e
      | some p2 =>
        obtain ⟨xs2, η2⟩ := p2
        rw [e2] at e
        simp only [Option.some.injEq, Prod.mk.injEq] at e
        obtain ⟨rfl, rfl⟩ := e
        have lw := l2.length
        obtain ⟨as1, Hs1, r1, x1⟩ := pass1_ok (π := π) (τ := τ) (o := o.up (os.map Opv.p).length) (v := v) (η := os.map Opv.p ++ η) (σ := ws.map some ++ σ) (by rw [Opv.up_p]; exact h) hl (by
          cases o with
          | pend y => trivial
          | slot i =>
            show (ws.map some ++ σ)[(os.map Opv.p).length + i]? = some (some v)
            rw [show (os.map Opv.p).length = (ws.map (some : V → Option V)).length by simp [lw], List.getElem?_append_right (Nat.le_add_right _ _), Nat.add_sub_cancel_left]
            exact l1) (pass1_up e1)
        have r1' : Rep G ((π ++ [some x]) ++ (os.map Opv.p ++ η1)) ((τ ++ [some v]) ++ (ws.map some ++ σ)) as1 H Hs1 := by simpa using r1
        obtain ⟨as2, Hs2, r2, x2⟩ := argAll_ok r1' (by simp [hl]) l2 e2
        exact ⟨as2, Hs2, by simpa using r2, x1.trans x2⟩
theorem Rep.dropMid {A B : Env} {y : Option Val} {τ σ : L2.St} {s : Option V} {as : List Addr} (h : Rep G (A ++ (y :: B)) (τ ++ (s :: σ)) as H Hs) (hl : τ.length = A.length) : ∃ as', (∀ a ∈ as', a ∈ as) ∧ Rep G (A ++ B) (τ ++ σ) as' H Hs := by
  obtain ⟨a1, a2, rfl, p, q⟩ := h.sub hl
  obtain ⟨a3, q2, m⟩ := q.pop
  obtain ⟨n1, n2, n3⟩ := List.nodup_append.mp h.nd
  refine ⟨a1 ++ a3, fun a ha => ?_, h.le, p.join q2.env, List.nodup_append.mpr ⟨n1, q2.nd, fun a ha b hb => n3 a ha b (m b hb)⟩, fun a ha => ?_⟩
  · rcases List.mem_append.mp ha with ha | ha
    · simp [ha]
    · simp [m a ha]
  · rcases List.mem_append.mp ha with ha | ha
    · exact h.off a (by simp [ha])
    · exact h.off a (by simp [m a ha])
theorem back_len (o : Opv) (y : Option Val) (η : Env) : (back1 o y η).length = η.length := by
  cases o with
  | pend x => rfl
  | slot i =>
    simp only [back1]
    cases e : η[i]? with
    | none => rfl
    | some z => cases z <;> simp
theorem backAll_ok : ∀ {os : List Opv} {θ η : Env} {vs : List V} {σ : L2.St} {as : List Addr}, Rep G (η ++ θ) (σ ++ vs.map some) as H Hs → σ.length = η.length → (∀ (j : Nat) (o : Opv), os[j]? = some o → ∀ v, vs[j]? = some v → o.lnk σ v) →
    ∃ as', (∀ a ∈ as', a ∈ as) ∧ Rep G (backAll os θ η) σ as' H Hs
  | [], θ, η, vs, σ, as, h, hl, l => by
    obtain ⟨a1, a2, rfl, p, q⟩ := h.sub hl
    exact ⟨a1, fun a ha => by simp [ha], by cases θ <;> exact ⟨h.le, p, (List.nodup_append.mp h.nd).1, fun a ha => h.off a (by simp [ha])⟩⟩
  | o :: os, [], η, vs, σ, as, h, hl, l => by
    obtain ⟨a1, a2, rfl, p, q⟩ := h.sub hl
    exact ⟨a1, fun a ha => by simp [ha], h.le, p, (List.nodup_append.mp h.nd).1, fun a ha => h.off a (by simp [ha])⟩
  | o :: os, y :: θ, η, vs, σ, as, h, hl, l => by
    have ll := h.env.length
    cases vs with
    | nil =>
      simp only [List.length_append, List.map_nil, List.length_nil, List.length_cons] at ll
      omega
    | cons v vs =>
      have lo : o.lnk σ v := l 0 o rfl v rfl
      have rest : ∀ {η1 : Env} {as1 : List Addr}, (∀ a ∈ as1, a ∈ as) → η1.length = η.length → Rep G (η1 ++ θ) (σ ++ vs.map some) as1 H Hs → ∃ as', (∀ a ∈ as', a ∈ as) ∧ Rep G (backAll os θ η1) σ as' H Hs := fun m1 e1 r1 => by
        obtain ⟨as', m, r⟩ := backAll_ok r1 (by omega) (os := os) fun j o' e v' e' => l (j + 1) o' (by simpa using e) v' (by simpa using e')
        exact ⟨as', fun a ha => m1 a (m a ha), r⟩
      show ∃ as', (∀ a ∈ as', a ∈ as) ∧ Rep G (backAll os θ (back1 o y η)) σ as' H Hs
      have h' : Rep G (η ++ (y :: θ)) (σ ++ (some v :: vs.map some)) as H Hs := h
      have plain : back1 o y η = η → ∃ as', (∀ a ∈ as', a ∈ as) ∧ Rep G (backAll os θ (back1 o y η)) σ as' H Hs := fun e => by
        rw [e]
        obtain ⟨as1, m1, r1⟩ := h'.dropMid hl
        exact rest m1 rfl r1
      cases o with
      | pend x => exact plain rfl
      | slot i =>
        cases ei : η[i]? with
        | none => exact plain (by simp only [back1, ei])
        | some z =>
          cases z with
          | some z' => exact plain (by simp only [back1, ei])
          | none =>
            have hi : i < η.length := (List.getElem?_eq_some_iff.mp ei).1
            have eb : back1 (.slot i) y η = η.set i y := by simp only [back1, ei]
            cases y with
            | none =>
              refine plain ?_
              rw [eb]
              refine List.ext_getElem? fun j => ?_
              by_cases hj : j = i
              · subst hj
                rw [List.getElem?_set_self hi, ei]
              · rw [List.getElem?_set_ne (Ne.symm hj)]
            | some x =>
              obtain ⟨as1, p1, r1⟩ := Rep.move (i := η.length) (j := i) (x := x) (v := v) h' (by simp) (by rw [List.getElem?_append_left hi]; exact ei) (by rw [← hl]; simp) (by
                have lo' : σ[i]? = some (some v) := lo
                rw [List.getElem?_append_left (by omega)]
                exact lo')
              have es : ((η ++ (some x :: θ)).set η.length none).set i (some x) = η.set i (some x) ++ (none :: θ) := by
                rw [List.set_append_right _ _ (Nat.le_refl _), Nat.sub_self, List.set_append_left _ _ hi]
                rfl
              rw [es] at r1
              obtain ⟨as2, m2, r2⟩ := r1.dropMid (by simp [hl])
              rw [eb]
              exact rest (fun a ha => p1.mem_iff.mp (m2 a ha)) (by simp) r2
end

/-! ### a def's promise over data -/
abbrev FF := List Val → RO Val
def PostF (M : Md) (vs : List V) (as : List Addr) (H Hs : Hp) (Q : VK) (E : XK) : Res Val → Prop
  | .ok x θ => ∀ v as' H' Hs', Rep M.G (some x :: θ) (some v :: vs.map some) as' H' Hs' → Ext as H Hs as' H' Hs' → Q v H'
  | .exc c p θ => ∀ u dx as' H' Hs', Rep M.G (p :: θ) (u :: vs.map some) as' H' Hs' → XRep H' p u dx → Ext as H Hs as' H' Hs' → E (.ref (M.C c)) dx H'
def spD (M : Md) (n : Nat) (F : FF) : Sp := fun vs H Q E => vs.length = n ∧ ∃ xs as Hs r, Rep M.G (xs.map some) (vs.map some) as H Hs ∧ F xs = some r ∧ PostF M vs as H Hs Q E r
/-- constants (defaults) -/
def ConstD (G : Gc) : List D → List V → Prop
  | [], vs => vs = []
  | d :: ds, vs => ∃ v ws, vs = v :: ws ∧ (∀ Hs, RepD G Hs d v) ∧ ConstD G ds ws
theorem ConstD.slots {G : Gc} {H Hs : Hp} : ∀ {ds : List D} {vs : List V}, ConstD G ds vs → RepO G H Hs ((ds.map Val.sh).map some) (vs.map some) []
  | [], vs, h => by
    obtain rfl : vs = [] := h
    exact ⟨rfl, rfl⟩
  | d :: ds, vs, h => by
    obtain ⟨v, ws, rfl, r, q⟩ := h
    exact ⟨v, ws.map some, [], [], rfl, rfl, RepV.sh_iff.mpr ⟨rfl, r Hs⟩, ConstD.slots q⟩
def callR (n : Nat) (ms : List Bool) (F : FF) (dv : List D) (os : List Opv) (η : Env) : RO Opv := match argAll ms os η with
  | some (xs, η1) => (match (if os.length + dv.length = n then F (xs ++ dv.map .sh) else none) with
    | some (.ok x θ) => some (.ok (.pend x) (backAll os θ η1))
    | some (.exc c p θ) => some (.exc c p (backAll os θ η1))
    | none => none)
  | none => none
theorem Links.at {σ : L2.St} : ∀ {os : List Opv} {vs : List V}, Links σ os vs → ∀ (j : Nat) (o : Opv), os[j]? = some o → ∀ v, vs[j]? = some v → o.lnk σ v
  | [], _, _, j, o, e, _, _ => by simp at e
  | o' :: os, vs, h, j, o, e, v, e' => by
    obtain ⟨w, ws, rfl, l1, l2⟩ := h
    cases j with
    | zero =>
      simp at e e'
      subst e e'
      exact l1
    | succ j => exact Links.at l2 j o (by simpa using e) v (by simpa using e')
theorem back_ok {G : Gc} {H Hs : Hp} {os : List Opv} {θ η : Env} {vs ws : List V} {σ : L2.St} {as : List Addr} (h : Rep G (η ++ θ) (σ ++ (vs ++ ws).map some) as H Hs) (hl : σ.length = η.length) (l : Links σ os vs) :
    ∃ as', (∀ a ∈ as', a ∈ as) ∧ Rep G (backAll os θ η) σ as' H Hs :=
  backAll_ok h hl fun j o e v e' => l.at j o e v (by
    have hj : j < vs.length := by
      rw [l.length]
      exact (List.getElem?_eq_some_iff.mp e).1
    rw [List.getElem?_append_left hj] at e'
    exact e')
theorem ConstD.length {G : Gc} : ∀ {ds : List D} {vs : List V}, ConstD G ds vs → vs.length = ds.length
  | [], vs, h => by
    obtain rfl : vs = [] := h
    rfl
  | d :: ds, vs, h => by
    obtain ⟨v, ws, rfl, _, q⟩ := h
    simp [ConstD.length q]
theorem argAll_len : ∀ {os : List Opv} {ms : List Bool} {η : Env} {xs : List Val} {η' : Env}, argAll ms os η = some (xs, η') → xs.length = os.length
  | [], ms, η, xs, η', h => by
    simp only [argAll, Option.some.injEq, Prod.mk.injEq] at h
    rw [← h.1]
    rfl
  | o :: os, ms, η, xs, η', h => by
    simp only [argAll] at h
    cases q1 : pass1 (ms.headD true) o η with
    | none => rw [q1] at h; cases h
    | some z =>
      obtain ⟨y, ηy⟩ := z
      rw [q1] at h
      simp only at h
      cases q2 : argAll ms.tail os ηy with
      | none => rw [q2] at h; cases h
      | some z2 =>
        obtain ⟨ys, ηz⟩ := z2
        rw [q2] at h
        simp only [Option.some.injEq, Prod.mk.injEq] at h
        rw [← h.1]
        simp [argAll_len q2]
/-- a call between what is handed over and what stands beside -/
theorem call_frame {G : Gc} {dv : List D} {dvs : List V} (hd : ConstD G dv dvs) {os : List Opv} {xs : List Val} {vs : List V} {η1 : Env} {σ : L2.St} {as1 : List Addr} {H Hs1 : Hp}
    (r1 : Rep G (xs.map some ++ η1) (vs.map some ++ σ) as1 H Hs1) (lx : xs.length = os.length) (l : Links σ os vs) :
    ∃ b1, Rep G ((xs ++ dv.map Val.sh).map some) ((vs ++ dvs).map some) b1 H Hs1 ∧ ∀ {θ : Env} {x : Option Val} {s : Option V} {b : List Addr} {H' Hs' : Hp}, Rep G (x :: θ) (s :: (vs ++ dvs).map some) b H' Hs' → Ext b1 H Hs1 b H' Hs' →
        ∃ as', Rep G (x :: backAll os θ η1) (s :: σ) as' H' Hs' ∧ Ext as1 H Hs1 as' H' Hs' := by
  obtain ⟨b1, b2, rfl, pv, q⟩ := r1.sub (by simp [lx, l.length])
  obtain ⟨n1, n2, n3⟩ := List.nodup_append.mp r1.nd
  have hl : σ.length = η1.length := q.env.length.symm
  refine ⟨b1, ?_, fun {θ x s b H' Hs'} rr xx => ?_⟩
  · have j := pv.join (hd.slots (H := H) (Hs := Hs1))
    rw [List.append_nil] at j
    rw [List.map_append, List.map_append]
    exact ⟨r1.le, j, n1, fun a ha => r1.off a (by simp [ha])⟩
  · have nd2 : (b2 ++ b1).Nodup := List.perm_append_comm.nodup_iff.mpr r1.nd
    obtain ⟨r2, x2⟩ := Rep.frame q.env nd2 (fun a ha => r1.off a (by simp [ha])) rr xx
    have r3 : Rep G ((η1 ++ [x]) ++ θ) ((σ ++ [s]) ++ (vs ++ dvs).map some) (b2 ++ b) H' Hs' := by simpa using r2
    obtain ⟨c1, c2, e5, pc, qc⟩ := r3.sub (by simp [hl])
    have r4 : Rep G (η1 ++ [x]) (σ ++ [s]) c1 H' Hs' := ⟨r2.le, pc, by rw [e5] at r2; exact (List.nodup_append.mp r2.nd).1, fun a ha => r2.off a (by rw [e5]; simp [ha])⟩
    obtain ⟨c3, p3, r5⟩ := r4.swap hl
    have pp : (c3 ++ c2).Perm (b2 ++ b) := by
      rw [e5]
      exact p3.append_right _
    have r6 : Rep G (([x] ++ η1) ++ θ) (([s] ++ σ) ++ (vs ++ dvs).map some) (c3 ++ c2) H' Hs' := ⟨r2.le, r5.env.join qc.env, pp.nodup_iff.mpr r2.nd, fun a ha => r2.off a (pp.mem_iff.mp ha)⟩
    obtain ⟨d1, d2, e7, pd, qd⟩ := Rep.sub (π := [x]) (τ := [s]) (η := η1 ++ θ) (σ := σ ++ (vs ++ dvs).map some) (by simpa using r6) rfl
    obtain ⟨f1, mf, rf⟩ := back_ok qd hl l
    have nn := r6.nd
    rw [e7] at nn
    obtain ⟨k1, k2, k3⟩ := List.nodup_append.mp nn
    have mm : ∀ a ∈ d1 ++ f1, a ∈ b2 ++ b := fun a ha => pp.mem_iff.mp (by
      rw [e7]
      rcases List.mem_append.mp ha with z | z
      · simp [z]
      · simp [mf a z])
    refine ⟨d1 ++ f1, ⟨r2.le, pd.join rf.env, List.nodup_append.mpr ⟨k1, rf.nd, fun a ha c hc => k3 a ha c (mf c hc)⟩, fun a ha => r2.off a (mm a ha)⟩, ?_⟩
    exact (x2.perm List.perm_append_comm).less mm
theorem callR_ok {M : Md} {W : WX} {ms : List Bool} {F : FF} {dv : List D} {dvs : List V} {n : Nat} (hd : ConstD M.G dv dvs) {os : List Opv} {vs : List V} {η : Env} {σ : L2.St} {as as0 : List Addr} {H Hs H0 Hs0 : Hp} {res : Res Opv} {Q : VK}
    (h : Rep M.G (os.map Opv.p ++ η) (vs.map some ++ σ) as H Hs) (l : Links σ os vs) (x0 : Ext as0 H0 Hs0 as H Hs) (e : callR n ms F dv os η = some res) (hp : PostO M.G W σ as0 H0 Hs0 Q res) :
    spD M n F (vs ++ dvs) H Q (fun cls d H' => W cls d σ H') := by
  unfold callR at e
  cases e1 : argAll ms os η with
  | none =>
    rw [e1] at e
    cases e
  | some p =>
    obtain ⟨xs, η1⟩ := p
    rw [e1] at e
    simp only at e
    by_cases hn' : os.length + dv.length = n
    case neg =>
      rw [if_neg hn'] at e
      cases e
    rw [if_pos hn'] at e
    obtain ⟨as1, Hs1, r1, p1⟩ := argAll_ok (π := []) (τ := []) h rfl l e1
    obtain ⟨b1, rc, beside⟩ := call_frame hd (os := os) (xs := xs) (η1 := η1) (as1 := as1) r1 (argAll_len e1) l
    refine ⟨by rw [List.length_append, l.length, hd.length, hn'], xs ++ dv.map Val.sh, b1, Hs1, ?_⟩
    cases e2 : F (xs ++ dv.map Val.sh) with
    | none =>
      rw [e2] at e
      cases e
    | some rr =>
      rw [e2] at e
      refine ⟨rr, rc, rfl, ?_⟩
      cases rr with
      | ok x θ =>
        obtain rfl : res = .ok (.pend x) (backAll os θ η1) := (Option.some.inj e).symm
        intro v as' H' Hs' rr' xx
        obtain ⟨as2, r2, x2⟩ := beside rr' xx
        exact hp v as2 H' Hs' r2 trivial (x0.trans (p1.trans x2))
      | exc c p θ =>
        obtain rfl : res = .exc c p (backAll os θ η1) := (Option.some.inj e).symm
        intro u dx as' H' Hs' rr' xr xx
        obtain ⟨as2, r2, x2⟩ := beside rr' xx
        exact hp u dx as2 H' Hs' r2 xr (x0.trans (p1.trans x2))
/-- a class called: __init__ on the new object -/
def makeR (c n : Nat) (ms : List Bool) (F : FF) (dv : List D) (os : List Opv) (η : Env) : RO Opv := match argAll ms (.pend (.oi c [] []) :: os) η with
  | some (xs, η1) => (match (if (os.length + 1) + dv.length = n then F (xs ++ dv.map .sh) else none) with
    | some (.ok (.sh .non) (some y :: θ)) => some (.ok (.pend y) (backAll os θ η1))
    | some (.exc c p (_ :: θ)) => some (.exc c p (backAll os θ η1))
    | _ => none)
  | none => none
theorem makeR_ok {M : Md} {W : WX} {ms : List Bool} {F : FF} {dv : List D} {dvs : List V} {c n : Nat} (hd : ConstD M.G dv dvs) {os : List Opv} {vs : List V} {η : Env} {σ : L2.St} {as as0 : List Addr} {H Hs H0 Hs0 : Hp} {res : Res Opv} {Q : VK}
    (h : Rep M.G (os.map Opv.p ++ η) (vs.map some ++ σ) as H Hs) (l : Links σ os vs) (x0 : Ext as0 H0 Hs0 as H Hs) (e : makeR c n ms F dv os η = some res) (hp : PostO M.G W σ as0 H0 Hs0 Q res)
    (x dx : Addr) (nx : H x = none) (ndx : H dx = none) (nex : dx ≠ x) :
    spD M n F (.ref x :: (vs ++ dvs)) (upd (upd H dx (.own x)) x (.ins (M.C c) dx [])) (fun v H2 => v = .non ∧ Q (.ref x) H2) (fun cls d H' => W cls d σ H') := by
  have k1 : Sub H (upd (upd H dx (.own x)) x (.ins (M.C c) dx [])) := fun b o e => by
    rw [upd_ne (ne_of_none e nx), upd_ne (ne_of_none e ndx)]
    exact e
  obtain ⟨h1, x1⟩ := h.push (x := .oi c [] []) (v := .ref x) (b := [x, dx]) (H' := upd (upd H dx (.own x)) x (.ins (M.C c) dx [])) k1 (by
    simp only [RepV]
    refine ⟨x, dx, [], [], rfl, rfl, upd_same, ?_, rfl, RepVs.nil_iff.mpr ⟨rfl, rfl⟩⟩
    rw [upd_ne nex, upd_same]) (by simp [nex.symm]) (fun a ha => by
    rcases List.mem_cons.mp ha with rfl | ha
    · exact nx
    · rw [List.mem_singleton] at ha
      rw [ha]
      exact ndx)
  unfold makeR at e
  cases e1 : argAll ms (.pend (.oi c [] []) :: os) η with
  | none =>
    rw [e1] at e
    cases e
  | some p =>
    obtain ⟨xs, η1⟩ := p
    rw [e1] at e
    simp only at e
    by_cases hn' : (os.length + 1) + dv.length = n
    case neg =>
      rw [if_neg hn'] at e
      cases e
    rw [if_pos hn'] at e
    have l' : Links σ (.pend (.oi c [] []) :: os) (.ref x :: vs) := ⟨_, _, rfl, trivial, l⟩
    obtain ⟨as1, Hs1, r1, p1⟩ := argAll_ok (os := .pend (.oi c [] []) :: os) (π := []) (τ := []) (vs := .ref x :: vs) h1 rfl l' e1
    obtain ⟨b1, rc, beside⟩ := call_frame hd (os := .pend (.oi c [] []) :: os) (vs := .ref x :: vs) (xs := xs) (η1 := η1) (as1 := as1) r1 (argAll_len e1) l'
    refine ⟨by rw [List.length_cons, List.length_append, l.length, hd.length]; omega, xs ++ dv.map Val.sh, b1, Hs1, ?_⟩
    cases e2 : F (xs ++ dv.map Val.sh) with
    | none =>
      rw [e2] at e
      cases e
    | some rr =>
      rw [e2] at e
      refine ⟨rr, rc, rfl, ?_⟩
      cases rr with
      | ok z θ =>
        cases z with
        | sh d =>
          cases d with
          | non =>
            cases θ with
            | nil => cases e
            | cons y θ =>
              cases y with
              | none => cases e
              | some y =>
                obtain rfl : res = .ok (.pend y) (backAll os θ η1) := (Option.some.inj e).symm
                intro v as' H' Hs' rr' xx
                have rr2 := rr'.env
                obtain ⟨w, σ', a1, a2, e5, rfl, pz, qz⟩ := rr2
                obtain ⟨e6, rfl⟩ := List.cons.inj e5
                obtain ⟨rfl, rd⟩ := RepV.sh_iff.mp pz
                obtain rfl : v = w := Option.some.inj e6
                simp only [RepD] at rd
                refine ⟨rd, ?_⟩
                obtain ⟨u, σ'', c1, c2, e7, rfl, py, qy⟩ := qz
                obtain ⟨e8, rfl⟩ := List.cons.inj e7
                have e8' : V.ref x = u := Option.some.inj e8
                subst e8'
                have rr3 : Rep M.G (some y :: none :: θ) (some (.ref x) :: ((.ref x :: vs) ++ dvs).map some) (c1 ++ c2) H' Hs' :=
                  ⟨rr'.le, ⟨_, _, c1, c2, rfl, rfl, py, ⟨_, _, rfl, qy⟩⟩, rr'.nd, rr'.off⟩
                obtain ⟨as2, r2, x2⟩ := beside rr3 xx
                exact hp (.ref x) as2 H' Hs' r2 trivial (x0.trans (x1.trans (p1.trans x2)))
          | _ => cases e
        | _ => cases e
      | exc c' p θ =>
        cases θ with
        | nil => cases e
        | cons y θ =>
          obtain rfl : res = .exc c' p (backAll os θ η1) := (Option.some.inj e).symm
          intro u dx' as' H' Hs' rr' xr xx
          obtain ⟨as2, r2, x2⟩ := beside rr' xx
          exact hp u dx' as2 H' Hs' r2 xr (x0.trans (x1.trans (p1.trans x2)))
end Wp
end
section
set_option Elab.async false
set_option linter.all false
set_option maxRecDepth 100000
/-! WpN: promises of defs that are called where no repr is under way. -/
namespace Wp
open PySem PySem.Spec PyProof.Rows L2

structure FnG (P : Program) (w : World) (K : PySem.W.Frag) (mg : Str → Option Value) (base : Heap) (k : Nat) (f : Addr) (fd : FuncData) (ps : List Str) (sp : Sp) : Prop where
  len : ∀ vs H Q E, sp vs H Q E → vs.length = ps.length
  run : ∀ (A : Around) (outer : List PySem.Env) (s : Shared) (H : Hp) (args : Args) (us : List Value) (vs : List V) (Q : VK) (E : XK), A.guards = some [] → Room k A → Env0 P w K mg base A outer s H →
    BindsTo s fd args (ps.zip us) → Vals vs us → sp vs H Q E → codeAny (model P w) A (.call (.ref f) args) (CR (L2.CX P w) outer P w H s Q E) s
theorem FnG.mono {P : Program} {w : World} {K : PySem.W.Frag} {mg : Str → Option Value} {base : Heap} {j k : Nat} {f : Addr} {fd : FuncData} {ps : List Str} {sp : Sp} (F : FnG P w K mg base j f fd ps sp) (h : j ≤ k) : FnG P w K mg base k f fd ps sp :=
  ⟨F.len, fun A o s H a us vs Q E g r => F.run A o s H a us vs Q E g (r.mono h)⟩
section
variable {X : Cx} {W : WX} {k : Nat} {f : Addr} {fd : FuncData} {ps : List Str} {sp : Sp} {dvs : List V} {ds : List Value} {x : Str} {p pos : Pos} {e : Expr} {es : List Expr} {t : TA}
theorem runG {pins : List (Addr × Obj)} {σ : L2.St} {H : Hp} {s : Shared} {Q : VK} {us : List Value} {vs : List V} (F : FnG X.prog X.w X.K X.mg X.base k f fd ps sp) (gd : X.A.guards = some []) (hr : Room k X.A) (hb : L2.Binds X.K fd ps ds) (hd : Vals dvs ds)
    (tk : Takes X W) (I : Inv X pins σ H s) (r : Vals vs us) (h : sp (vs ++ dvs) H Q (WE W σ)) : wpAny (model X.prog X.w) X.A (call (.ref f) us) (EP X pins σ Q) X.xe s := by
  have rr := r.append hd
  have run := F.run X.A X.stack s H ⟨us, []⟩ _ _ Q (WE W σ) gd hr I.env0 (hb s us I.kIn (by rw [← rr.length]; exact F.len _ _ _ _ h)) rr h
  refine wpAny_call (codeAny_mono run fun res s' hres => ?_)
  rcases res with er | fl
  · exact passAt tk σ pins H s er s' I hres
  · cases fl <;> first | exact I.after hres | exact hres.elim
theorem pe_callG (F : FnG X.prog X.w X.K X.mg X.base k f fd ps sp) (gd : X.A.guards = some []) (hr : Room k X.A) (hg : Gl X x) (hm : X.mg x = some (.ref f)) (hk : PySem.W.keepIn X.K (.ref f) = true) (hb : L2.Binds X.K fd ps ds) (hd : Vals dvs ds) (tk : Takes X W)
    (ha : PA X (e :: es) t) (hdb : (x == ("__debug__" : Str)) = false) (h1 : starEach (e :: es) X.env = (false, eval e X.env) :: starEach es X.env) (h2 : (backTo pos (starEach es X.env)).any (·.1) = false) :
    PE X (.Call (.Name x p) (e :: es) [] pos) (fun σ H Q => t σ H fun vs H1 => sp (vs ++ dvs) H1 Q (WE W σ)) := by
  refine ⟨fun pins s σ H Q I h => wpAny_Call_Name_kw (ld_glob I hg hm ?_ hdb)⟩
  exact PySem.W.callWith_K (h₀ := X.base) I.ok.mod.kin hk (thn (ha.run pos pins s σ H _ I h) fun us s1 ⟨vs, H1, I1, r, q⟩ => ⟨I1.kIn, runG F gd hr hb hd tk I1 r q⟩) h1 h2
theorem pe_callG0 (F : FnG X.prog X.w X.K X.mg X.base k f fd ps sp) (gd : X.A.guards = some []) (hr : Room k X.A) (hg : Gl X x) (hm : X.mg x = some (.ref f)) (hk : PySem.W.keepIn X.K (.ref f) = true) (hb : L2.Binds X.K fd ps ds) (hd : Vals dvs ds) (tk : Takes X W)
    (hdb : (x == ("__debug__" : Str)) = false) : PE X (.Call (.Name x p) [] [] pos) (fun σ H Q => sp dvs H Q (WE W σ)) := by
  refine ⟨fun pins s σ H Q I h => wpAny_Call_Name_kw (ld_glob I hg hm ?_ hdb)⟩
  exact PySem.W.callWith_K0 I.kIn hk (runG (us := []) (vs := []) F gd hr hb hd tk I .nil h)
/-- a property's getter -/
theorem propG {C pa g a dx : Addr} {fs : List (Str × V)} {fl : Str} {E : XK} {pins : List (Addr × Obj)} {σ : L2.St} {H : Hp} {s : Shared} {Q : VK} {b : Bool} {E' : Value → Shared → Prop} (I : Inv X pins σ H s) (ea : H a = some (.ins C dx fs)) (c : Cls X.K C) (hp : PropOf X.K C fl pa g)
    (F : FnG X.prog X.w X.K X.mg X.base k g fd ps sp) (gd : X.A.guards = some []) (hr : Room (k + 1) X.A) (hb : L2.Binds X.K fd ps ds) (hd : Vals dvs ds) (hx : Passes (L2.CX X.prog X.w) X.nox E) (h : sp (.ref a :: dvs) H Q E) :
    wpAny (model X.prog X.w) X.A (getAttr (.ref a) fl b) (EP X pins σ Q) E' s := by
  obtain ⟨mA, O, o1, o2, o3, o4⟩ := ins_get I.hok ea
  obtain ⟨od, J, j2⟩ := O.look
  obtain ⟨rest, isP⟩ := hp.rec_
  have T := I.tok (s.toks + 1)
  have n1 : ([Value.ref a] ++ ds).length = ps.length := by
    have n2 := F.len _ _ _ _ h
    simp only [List.length_cons, List.length_append, hd.length] at n2 ⊢
    simp only [List.length_nil]
    omega
  have isC : (PySem.W.clsIn X.K C).isSome = true := by
    obtain ⟨cd, z, _⟩ := PySem.W.any_some c.hd
    simp only [z, Option.isSome_some]
  have run := F.run X.A.in1 X.stack { s with toks := s.toks + 1 } H ⟨[.ref a], []⟩ (.ref a :: ds) (.ref a :: dvs) Q E gd hr.in1 T.env0.in1 (hb _ [.ref a] T.kIn n1) (.cons rfl hd) h
  obtain ⟨pg1, pg2⟩ := PySem.W.plainGet_of (c.get fl)
  refine PySem.W.get_bind I.kIn J pg1 (PySem.W.findObj_data isC hp.at_ hp.get hp.tak) pg2 (wpAny_call (PySem.W.prop_get (s := { s with toks := s.toks + 1 }) I.kIn isP (codeAny_mono run fun res s' hres => ?_)))
  rcases res with er | fw
  · exact (hx pins σ H { s with toks := s.toks + 1 } er s' (T.wish _) hres).elim
  · cases fw with
    | ret u =>
      obtain ⟨v, H', I3, rv, q3⟩ := T.after hres
      show wpAny _ _ (handedOut u) _ _ _
      rw [PySem.W.handedOut_of (handed_of rv)]
      exact wpAny_pure ⟨v, H', I3, rv, q3⟩
    | _ => exact hres.elim
end

/-! ### a def by its body -/
theorem FunD.fnG {P : Program} {w : World} {K : PySem.W.Frag} {mg : Str → Option Value} {base : Heap} {k : Nat} {f : Addr} {fd : FuncData} {x qual : Str} {params : Arguments} {body : List Stmt} {scope : Scope} {dvs : List V} {kws : List (Str × V)} {N ps : List Str} {sp : Sp}
    (F : FunD K x qual params body scope dvs kws f fd) (S : FnScope N ps scope) (len : ∀ vs H Q E, sp vs H Q E → vs.length = ps.length)
    (hbody : ∀ (cdv : Value) (A : Around) (outer : List PySem.Env) (s : Shared) (H : Hp) (vs : List V) (Q : VK) (E : XK), A.guards = some [] → Room k (A.deeper (envOfC qual scope s.heap.objs.size f cdv)) → sp vs H Q E →
      ∃ t, PSs (cxOf (L2.CX P w) P w K mg base N qual scope f cdv A outer s H E) body t ∧ t { nx := fun _ H' => Q .non H', rt := Q } (L2.start N vs) H) : FnG P w K mg base (k + 1) f fd ps sp := by
  obtain ⟨oc, od, dV, kV, doc, pm, an, cdv, ct, osl, rfl, lk, hcd, z1, z2⟩ := F.ex
  constructor
  · exact len
  intro A outer s H args us vs Q E gd hr e0 bind rel hsp
  have old := fun b o e => (e0.bs b o e).1
  have inK : K.In s.heap := e0.mod.kin.keeps old
  have nolim : s.heap.NoLimit := e0.mod.nolimit.keeps old
  refine codeAny_call_function hr.depth (inK _ _ lk) rfl S.co S.gen rfl (PySem.W.codeRec_of inK hcd) (bind _ _ _ _ (wpAny_newFunctionEnv_cells S.kind (fun y hy => ?_) fun env he s1 nw => ?_))
  · rcases S.par y.1 (List.of_mem_zip hy).1 with q | q
    · exact Or.inl q
    · exact Or.inr ⟨q, PySem.W.cellsFrom_some _ _ _ (Or.inl q)⟩
  · subst he
    refine ⟨nolim.keeps nw.toInCall.keep, codeAny_func ?_⟩
    obtain ⟨t, ht, hq⟩ := hbody cdv A outer s H vs Q E gd (hr.deeper _) hsp
    have beg : Inv (cxOf (L2.CX P w) P w K mg base N qual scope f cdv A outer s H E) [] (L2.start N vs) H s1 := inv_start S hr.hd e0 (len _ _ _ _ hsp) rel nw
    refine wpAny_mono (ht.run [] s1 (L2.start N vs) H _ beg hq) (fun fl s' ends => ?_) fun _ _ z => z
    cases fl with
    | next =>
      obtain ⟨σ1, H1, J, q⟩ := ends
      exact ⟨V.non, H1, J.os, J.bare, J.base, J.hok, rfl, q⟩
    | ret u =>
      obtain ⟨v, σ1, H1, J, rv, q⟩ := ends
      exact ⟨v, H1, J.os, J.bare, J.base, J.hok, rv, q⟩
    | brk =>
      obtain ⟨z3, z4, z5, q⟩ := ends
      exact q.elim
    | cont =>
      obtain ⟨z3, z4, z5, q⟩ := ends
      exact q.elim

/-! ### the law's call -/
/-- the heap that the layer sees at first: the script, if it is not one of K's -/
def hp0 (K : PySem.W.Frag) (a : Addr) (vs : List Value) (ns : List Int) : Hp := fun b => if K.lookup a = none ∧ b = a then some (.frz { cls := .type "list", data := .seq vs.toArray } (.lst (ns.map V.int))) else none
theorem hp0_other {K : PySem.W.Frag} {a b : Addr} {vs : List Value} {ns : List Int} (h : b ≠ a) : hp0 K a vs ns b = none := if_neg fun z => h z.2
theorem law_callG {P : Program} {w : World} {K : PySem.W.Frag} {mg mb : Str → Option Value} {k : Nat} {fa a : Addr} {fd : FuncData} {x : Str} {sp : Sp} {s1 : Shared} {vs : List Value} {ns : List Int}
    (inK : K.In s1.heap) (glob : s1.heap.Ns mainGlobals mg) (bu : s1.heap.Ns builtinsNs mb) (boot : ∀ y : Str, y ≠ "__name__" → mb y = bootBuiltins y) (nolim : s1.heap.NoLimit) (nogen : s1.gens = #[])
    (ha : s1.heap.get? a = some { cls := .type "list", data := .seq vs.toArray }) (hi : IntsAre vs ns) (hl : ns.length ≤ sizeLine) (hr : Room k callerA)
    (F : ∀ base : Heap, K.In base → base.Ns mainGlobals mg → FnG P w K mg base k fa fd [x] sp) (hbind : ∀ (s : Shared) (u : Value), BindsTo s fd ⟨[u], []⟩ [(x, u)])
    (hsp : ∀ H : Hp, SqL K H a (ns.map V.int) → sp [.ref a] H (fun v _ => v = .bl true) fun _ _ _ => False) :
    codeAny (model P w) callerA (.call (.ref fa) ⟨[.ref a], []⟩) (fun r s' => r = .ok (.ret (.bool true)) ∧ OldK s1.heap s'.heap ∧ s'.os = s1.os ∧ AllBare s'.gens) s1 := by
  have rv : Vals (ns.map V.int) vs := vals_ints hi
  have ln := hi.length
  generalize eH : hp0 K a vs ns = H
  have off : ∀ {b : Addr}, b ≠ a → H b = none := fun h => by rw [← eH]; exact hp0_other h
  have offK : ∀ {b : Addr} {o : Obj}, K.lookup b = some o → H b = none := fun {b o} e => by
    rw [← eH]
    unfold hp0
    split
    · rename_i z
      rw [z.2, z.1] at e
      cases e
    · rfl
  have form : ∀ b u, H b = some u → b = a ∧ u = .frz { cls := .type "list", data := .seq vs.toArray } (.lst (ns.map V.int)) := fun b u e => by
    rw [← eH] at e
    unfold hp0 at e
    split at e
    · rename_i z
      exact ⟨z.2, (Option.some.inj e).symm⟩
    · cases e
  have sq : SqL K H a (ns.map V.int) := by
    cases hk : K.lookup a with
    | none => exact .inl (.inr ⟨_, by rw [← eH]; exact if_pos ⟨hk, rfl⟩⟩)
    | some o =>
      have z := inK a o hk
      rw [ha] at z
      cases z
      exact .inr ⟨_, vs.toArray, _, hk, rfl, rfl, rfl, by rw [List.size_toArray, ln]; exact hl, by simpa using rv⟩
  have hok : HOk P w H s1.heap := fun b u e => by
    obtain ⟨rfl, rfl⟩ := form b u e
    exact ⟨ha, by rw [List.length_map]; exact hl, vs, _, rv, ha⟩
  have sees : ∀ {b : Addr} {o : Obj}, s1.heap.get? b = some o → H b = none → (hidT s1.heap H).get? b = some o := fun e n => hidT_get e n
  have isDict : ∀ {b : Addr} {o : Obj} {es : Array DictEntry} {ep : Nat}, s1.heap.get? b = some o → o.data = .dict es ep → H b = none := fun {b o es ep} e d => off fun z => by
    subst z
    rw [ha] at e
    cases e
    have d2 : Data.seq vs.toArray _ = Data.dict es ep := d
    cases d2
  have spaces : ∀ {b : Addr} {m : Str → Option Value}, s1.heap.Ns b m → (hidT s1.heap H).Ns b m := fun {b m} ⟨o, es, ep, e, d, r⟩ => ⟨o, es, ep, sees e (isDict e d), d, r⟩
  have kb : K.In (hidT s1.heap H) := fun b o e => sees (inK b o e) (offK e)
  obtain ⟨mc, c1, c2⟩ := nolim
  have e0 : Env0 P w K mg (hidT s1.heap H) callerA [] s1 H :=
    ⟨rfl, ⟨kb, spaces glob, ⟨mb, spaces bu, boot⟩, ⟨mc, spaces c1, c2⟩⟩, fun b o e => of_hidT e, Nat.le_of_eq (hidT_size _ _), trivial, (fun b hb => nomatch (show b ∈ ([] : List Addr) from hb)), hok, .of_eq nogen⟩
  have run := (F _ kb (spaces glob)).run callerA [] s1 H ⟨[.ref a], []⟩ [.ref a] [.ref a] _ _ rfl hr e0 (hbind s1 (.ref a)) (.cons rfl .nil) (hsp H sq)
  refine codeAny_mono run fun res s' hres => ?_
  rcases res with er | fw
  · obtain ⟨z1, z2, z3, z4, z5, z6, z7, z8, z9, z10, z11, z12, z13⟩ := hres
    exact z13.elim
  cases fw with
  | ret u =>
    obtain ⟨v, H', os, bare, un, hok', r', q⟩ := hres
    obtain rfl : v = .bl true := q
    obtain rfl : u = Value.bool true := r'
    refine ⟨rfl, OldK.of_keep fun b o e => ?_, os, bare⟩
    cases q : H b with
    | none => exact un.keep b o e q (fun z => nomatch (show b ∈ ([] : List Addr) from z)) (by simp)
    | some u =>
      obtain ⟨rfl, rfl⟩ := form b u q
      obtain ⟨y1, y2⟩ := hok b _ q
      obtain ⟨y3, y4⟩ := hok' b _ (un.frzs b _ _ q)
      rw [e] at y1
      cases y1
      exact y3
  | _ => exact hres.elim
theorem walkG {l : PySem.W.OpenLaw} {n k : Nat} {q : Program} {loose : List Str} {XP : (Str → Option Value) → Heap → Prop} {YP : World → Heap → Prop} {d : DefRec} {x : Str}
    (hn : l.most = some n) (hn2 : n ≤ sizeLine) (hdf : d.params.defaults = []) (hr : Room k callerA)
    (F : ∀ (w : World) (mg : Str → Option Value) (fa : Addr) (h : Heap), YP w h → h.Ns mainGlobals mg → mg d.name = some (.ref fa) →
      ∃ (K : PySem.W.Frag) (fd : FuncData) (sp : Sp), K.In h ∧ (∀ (s : Shared) (u : Value), BindsTo s fd ⟨[u], []⟩ [(x, u)]) ∧
        (∀ (H : Hp) (a : Addr) (ns : List Int), ns.length ≤ n → SqL K H a (ns.map V.int) → sp [.ref a] H (fun v _ => v = .bl true) fun _ _ _ => False) ∧
        ∀ base : Heap, K.In base → base.Ns mainGlobals mg → FnG l.prog w K mg base k fa fd [x] sp) :
    PySem.W.WalkO q loose XP YP l.row.toRowW d [] (fun f vs => PySem.call f vs) := by
  refine Att.attach_call hn hdf fun w s₀ s₁ mg mb fa o pm cd doc a vs ns G Y ho hd hcd hmg hobj hints hlen hg => ?_
  obtain ⟨K, fd, sp, KX, hb, hsp, hF⟩ := F w mg fa _ Y G.T.g hmg
  exact law_callG KX G.T.g G.T.b G.T.builtins G.T.nolimit hg hobj hints (Nat.le_trans hlen hn2) hr hF hb (fun H hS => hsp H a ns hlen hS)
end Wp
end
section
set_option Elab.async false
set_option linter.all false
set_option maxRecDepth 100000
/-! WpE: calls, attributes, tests, in the text. -/
namespace Wp
open PySem PySem.Spec PyProof.Rows L2

/-! ### forms -/
def noStar : Expr → Bool
  | .Starred .. => false
  | _ => true
theorem star_cons {e : Expr} {es : List Expr} {env : PySem.Env} (h : noStar e = true) : starEach (e :: es) env = (false, eval e env) :: starEach es env := by
  cases e <;> first | rfl | cases h
theorem star_plain {env : PySem.Env} {pos : Pos} : ∀ {es : List Expr}, es.all noStar = true → (backTo pos (starEach es env)).any (·.1) = false
  | [], _ => rfl
  | e :: es, h => by
    rw [List.all_cons, Bool.and_eq_true] at h
    rw [star_cons h.1]
    show (false || (backTo pos (starEach es env)).any (·.1)) = false
    rw [star_plain h.2]
    rfl
theorem star_all {env : PySem.Env} {pos : Pos} : ∀ {es : List Expr}, es.all noStar = true → (backTo pos (starEach es env)).all (!·.1) = true
  | [], _ => rfl
  | e :: es, h => by
    rw [List.all_cons, Bool.and_eq_true] at h
    rw [star_cons h.1]
    show (!false && (backTo pos (starEach es env)).all (!·.1)) = true
    rw [star_all h.2]
    rfl
def baseOk : Expr → Bool
  | .Call (.Name _ _) [] [] _ => false
  | _ => true
theorem base_ok {o : Expr} {f : Str} {env : PySem.Env} {whole : Sem Value} (h : baseOk o = true) : attributeBase o f env whole = whole := by
  unfold attributeBase
  split
  · cases h
  · rfl
theorem mcall_form {o : Expr} {m : Str} {apos pos : Pos} {es : List Expr} {env : PySem.Env} (hb : baseOk o = true) (hs : es.all noStar = true) (hn : es.length < 30) (hl : (apos.endLine == pos.line) = true) :
    eval (.Call (.Attribute o m apos) es [] pos) env = (do
      let ov ← eval o env
      standAt apos.atName
      let (f, first) ← holding [ov] (getMethod ov m (plainOf o env))
      callWith pos f first (backTo pos (starEach es env)) (backToKw pos (keywordEach [] env))) := by
  rw [arm_eval_Call, base_ok hb]
  have hf : methodCallForm (es.length + ([] : List Keyword).length) (backTo pos (starEach es env)) (backToKw pos (keywordEach [] env)) = true := by
    show ((backTo pos (starEach es env)).all (!·.1) && true && decide (es.length + 0 + 0 < 30)) = true
    rw [star_all hs]
    simp [hn]
  refine congrArg _ (funext fun ov => congrArg _ (funext fun _ => ?_))
  exact mcall_line hf hl

/-! ### the context -/
structure Sc where
  N : List Str
  sc : Scope
  own : Str → Bool
structure Cok (M : Md) (S : Sc) (k : Nat) (W : WX) (X : Cx) : Prop where
  md : mdOf X M.C = M
  N : X.N = S.N
  sc : X.env.scope = S.sc
  own : ∀ x, S.own x = true → X.fn x = true
  calm : X.calm = true
  nd : S.N.Nodup
  gd : X.A.guards = some []
  room : Room k X.A
  tk : Takes X W
  po : PassesOwn (model X.prog X.w) X.A X.env X.xe

/-- a def that may be called -/
structure Cb (M : Md) (k : Nat) (f : Addr) (F : FF) (n : Nat) (df : List D) : Prop where
  ex : ∃ fd ps, FnG M.prog M.w M.K M.mg M.base k f fd ps (spD M n F) ∧ ∀ j ≤ df.length, ∃ dvs ds, ConstD M.G (df.drop j) dvs ∧ Vals dvs ds ∧ L2.Binds M.K fd ps ds
/-- what is known of a def at a call -/
structure Fi where
  F : FF
  n : Nat
  ms : List Bool
  df : List D
def Fi.dv (i : Fi) (m : Nat) : List D := i.df.drop (i.df.length + m - i.n)
section
variable {M : Md} {S : Sc} {k : Nat} {W : WX} {X : Cx} {pos p : Pos} {x : Str} {g : FL}
def fCall (i : Fi) (g : FL) : FO := fun η => bindR (g η) fun os η1 => callR i.n i.ms i.F (i.dv os.length) os η1
theorem ok_call {i : Fi} {f : Addr} {e : Expr} {es : List Expr} (ok : Cok M S k W X) (hg : S.sc.names.lookup x = some .globalImplicit) (hm : M.mg x = some (.ref f)) (hk : PySem.W.keepIn M.K (.ref f) = true) (hdb : (x == ("__debug__" : Str)) = false)
    (c : Cb M k f i.F i.n i.df) (hs : (e :: es).all noStar = true) (hn : i.df.length + (e :: es).length - i.n ≤ i.df.length) (ha : OkL M X W (e :: es) g) : OkO M X W (.Call (.Name x p) (e :: es) [] pos) (fun η => bindR (g η) fun os η1 => if os.length = (e :: es).length then callR i.n i.ms i.F (i.dv (e :: es).length) os η1 else none) := by
  obtain ⟨P, w, K, mg, base, C⟩ := M
  have emd := ok.md
  simp only [mdOf, Md.mk.injEq, and_true] at emd
  obtain ⟨rfl, rfl, rfl, rfl, rfl⟩ := emd
  obtain ⟨fd, ps, F, hd⟩ := c.ex
  obtain ⟨dvs, ds, h1, h2, h3⟩ := hd _ hn
  obtain ⟨t, ht, hh⟩ := ha
  have hgl : Gl X x := by
    show X.env.scope.names.lookup x = _
    rw [ok.sc]
    exact hg
  rw [List.all_cons, Bool.and_eq_true] at hs
  refine ⟨_, pe_callG F ok.gd ok.room hgl hm hk h3 h2 ok.tk ht hdb (star_cons hs.1) (star_plain hs.2), fun η σ as H Hs res Q hR hf hp => ?_⟩
  rcases bindR_inv hf with ⟨os, η1, e1, e2⟩ | ⟨c, p, η1, e1, rfl⟩
  · refine hh η σ as H Hs _ _ hR e1 fun vs as' H' Hs' r1 l1 x1 => ?_
    by_cases hlen : os.length = (e :: es).length
    · rw [if_pos hlen] at e2
      exact callR_ok h1 r1 l1 x1 e2 hp
    · rw [if_neg hlen] at e2
      cases e2
  · exact hh η σ as H Hs _ _ hR e1 hp

/-! ### the class of a value -/
def Val.cls : Val → Option (Nat × List Str)
  | .sh (.obj c fs _) => some (c, fs)
  | .oi c fs _ => some (c, fs)
  | _ => none
def Opv.cls (o : Opv) (η : Env) : Option (Nat × List Str) := match o with
  | .pend x => x.cls
  | .slot i => match η[i]? with
    | some (some x) => x.cls
    | _ => none
theorem Val.cls_ok {G : Gc} {H Hs : Hp} {x : Val} {v : V} {as : List Addr} {c : Nat} {fs : List Str} (h : RepV G H Hs x v as) (s : Le Hs H) (e : x.cls = some (c, fs)) : ∃ a dx vs, v = .ref a ∧ H a = some (.ins (G.C c) dx (fs.zip vs)) ∧ fs.length = vs.length := by
  cases x with
  | sh d =>
    cases d with
    | obj c' fs' xs =>
      simp only [Val.cls, Option.some.injEq, Prod.mk.injEq] at e
      obtain ⟨rfl, rfl⟩ := e
      obtain ⟨_, rd⟩ := RepV.sh_iff.mp h
      obtain ⟨a, dx, vs, e1, e2, e3, _⟩ := rd.top s
      exact ⟨a, dx, vs, e1, e2, e3⟩
    | _ => cases e
  | oi c' fs' xs =>
    simp only [Val.cls, Option.some.injEq, Prod.mk.injEq] at e
    obtain ⟨rfl, rfl⟩ := e
    simp only [RepV] at h
    obtain ⟨a, dx, vs, bs, e1, _, e2, _, e3, _⟩ := h
    exact ⟨a, dx, vs, e1, e2, e3⟩
  | _ => cases e
theorem Opv.cls_ok {G : Gc} {H Hs : Hp} {o : Opv} {η : Env} {σ : L2.St} {v : V} {as : List Addr} {c : Nat} {fs : List Str} (h : Rep G (o.p :: η) (some v :: σ) as H Hs) (l : o.lnk σ v) (e : o.cls η = some (c, fs)) :
    ∃ a dx vs, v = .ref a ∧ H a = some (.ins (G.C c) dx (fs.zip vs)) ∧ fs.length = vs.length := by
  cases o with
  | pend x =>
    obtain ⟨w, σ', a1, a2, e1, rfl, p, q⟩ := h.env
    obtain ⟨e2, rfl⟩ := List.cons.inj e1
    obtain rfl : v = w := Option.some.inj e2
    exact Val.cls_ok p h.le e
  | slot i =>
    simp only [Opv.cls] at e
    cases ei : η[i]? with
    | none =>
      rw [ei] at e
      cases e
    | some y =>
      cases y with
      | none =>
        rw [ei] at e
        cases e
      | some x =>
        rw [ei] at e
        obtain ⟨as1, r1, _⟩ := h.pop
        obtain ⟨u, a1, a2, a3, eu, _, ru, _⟩ := r1.env.at ei
        have l' : σ[i]? = some (some v) := l
        rw [l'] at eu
        have ev : v = u := by simpa using eu
        subst ev
        exact Val.cls_ok ru h.le e
theorem zip_none {m : Str} : ∀ {fs : List Str} {vs : List V}, m ∉ fs → (fs.zip vs).lookup m = none
  | [], _, _ => rfl
  | f :: fs, [], _ => rfl
  | f :: fs, v :: vs, h => by
    simp only [List.mem_cons, not_or] at h
    rw [List.zip_cons_cons, List.lookup_cons, beq_eq_false_iff_ne.mpr h.1]
    exact zip_none h.2
theorem zip_some {m : Str} : ∀ {fs : List Str} {vs : List V} {i : Nat}, fs.idxOf? m = some i → fs.length = vs.length → ∃ v, vs[i]? = some v ∧ (fs.zip vs).lookup m = some v
  | [], _, i, h, _ => by simp at h
  | f :: fs, [], _, _, h => by simp at h
  | f :: fs, v :: vs, i, h, hl => by
    rw [List.idxOf?_cons] at h
    by_cases hf : (f == m) = true
    · rw [if_pos hf] at h
      cases h
      have e : f = m := beq_iff_eq.mp hf
      subst e
      exact ⟨v, rfl, by rw [List.zip_cons_cons, List.lookup_cons, beq_self_eq_true]⟩
    · rw [if_neg hf] at h
      cases hi : fs.idxOf? m with
      | none =>
        rw [hi] at h
        cases h
      | some j =>
        rw [hi] at h
        cases h
        obtain ⟨w, h1, h2⟩ := zip_some hi (by simpa using hl)
        refine ⟨w, by simpa using h1, ?_⟩
        have ne : (m == f) = false := beq_eq_false_iff_ne.mpr fun z => hf (by rw [z]; exact beq_self_eq_true f)
        rw [List.zip_cons_cons, List.lookup_cons, ne]
        exact h2

/-! ### methods -/
theorem pe_methW {o e : Expr} {es : List Expr} {m : Str} {apos : Pos} {ta : TE} {t : TA} (he : PE X o ta) (ha : PA X (e :: es) t) (gd : X.A.guards = some []) (tk : Takes X W) (hb : baseOk o = true) (hs : (e :: es).all noStar = true) (hn : (e :: es).length < 30) (hl : (apos.endLine == pos.line) = true) :
    PE X (.Call (.Attribute o m apos) (e :: es) [] pos) (fun σ H Q => ta σ H fun x H1 => ∃ a C dx fs f fd ps j sp dvs ds, x = .ref a ∧ H1 a = some (.ins C dx fs) ∧ Cls X.K C ∧ L2.Meth X.K C m f ∧ fs.lookup m = none ∧
      FnG X.prog X.w X.K X.mg X.base j f fd ps sp ∧ Room j X.A ∧ L2.Binds X.K fd ps ds ∧ Vals dvs ds ∧ t σ H1 fun vs H2 => sp (x :: (vs ++ dvs)) H2 Q (WE W σ)) := by
  refine ⟨fun pins s σ H Q I h => ?_⟩
  refine PySem.W.methodCall_KW (pl := plainOf o X.env) (thn (he.run pins s σ H _ I h) fun u s1 ⟨x, H1, I1, rx, a, C, dx, fs, f, fd, ps, j, sp, dvs, ds, ex, ea, cl, mt, lk, F, hr, hbi, hd, q⟩ => ?_) (mcall_form hb hs hn hl)
  subst ex
  obtain rfl : u = Value.ref a := rx
  refine getmeth_ok I1 ea cl mt lk ?_
  rw [List.all_cons, Bool.and_eq_true] at hs
  refine PySem.W.callWith_K (first := [.ref a]) (h₀ := X.base) I.ok.mod.kin mt.kp (thn (ha.run pos pins s1 σ H1 _ I1 q) fun us s2 ⟨vs, H2, I2, r, q2⟩ => ⟨I2.kIn, ?_⟩) (star_cons hs.1) (star_plain hs.2)
  exact runG (us := .ref a :: us) (vs := .ref a :: vs) F gd hr hbi hd tk I2 (.cons rfl r) q2
theorem pe_methW0 {o : Expr} {m : Str} {apos : Pos} {ta : TE} (he : PE X o ta) (gd : X.A.guards = some []) (tk : Takes X W) (hb : baseOk o = true) (hl : (apos.endLine == pos.line) = true) :
    PE X (.Call (.Attribute o m apos) [] [] pos) (fun σ H Q => ta σ H fun x H1 => ∃ a C dx fs f fd ps j sp dvs ds, x = .ref a ∧ H1 a = some (.ins C dx fs) ∧ Cls X.K C ∧ L2.Meth X.K C m f ∧ fs.lookup m = none ∧
      FnG X.prog X.w X.K X.mg X.base j f fd ps sp ∧ Room j X.A ∧ L2.Binds X.K fd ps ds ∧ Vals dvs ds ∧ sp (x :: dvs) H1 Q (WE W σ)) := by
  refine ⟨fun pins s σ H Q I h => ?_⟩
  refine PySem.W.methodCall_KW (pl := plainOf o X.env) (thn (he.run pins s σ H _ I h) fun u s1 ⟨x, H1, I1, rx, a, C, dx, fs, f, fd, ps, j, sp, dvs, ds, ex, ea, cl, mt, lk, F, hr, hbi, hd, q⟩ => ?_) (mcall_form hb rfl (by decide) hl)
  subst ex
  obtain rfl : u = Value.ref a := rx
  refine getmeth_ok I1 ea cl mt lk ?_
  refine PySem.W.callWith_K0 (first := [.ref a]) I1.kIn mt.kp ?_
  exact runG (us := [.ref a]) (vs := [.ref a]) F gd hr hbi hd tk I1 (.cons rfl .nil) q
/-- what a class lends as a method -/
def MtOk (M : Md) (k : Nat) (m : Str) (na : Nat) (mt : Nat → Option Fi) : Prop := ∀ c i, mt c = some i → ∃ f, Cls M.K (M.C c) ∧ L2.Meth M.K (M.C c) m f ∧ Cb M k f i.F i.n i.df ∧ i.df.length + (na + 1) - i.n ≤ i.df.length
def fMeth (mt : Nat → Option Fi) (m : Str) (na : Nat) (fo : FO) (g : FL) : FO := fun η => bindR (fo η) fun o η1 => match o.cls η1 with
  | some (c, fs) => if m ∈ fs then none else (match mt c with
    | some i => bindR (g η1) fun os η2 => if os.length = na then callR i.n i.ms i.F (i.dv (na + 1)) (o :: os) η2 else none
    | none => none)
  | none => none
theorem Links.nil_of {σ : L2.St} {vs : List V} (h : Links σ [] vs) : vs = [] := h
theorem ok_meth {mt : Nat → Option Fi} {o e : Expr} {fo : FO} {es : List Expr} {m : Str} {apos : Pos} (ok : Cok M S k W X) (hmt : MtOk M k m (e :: es).length mt) (ho : OkO M X W o fo) (ha : OkL M X W (e :: es) g)
    (hb : baseOk o = true) (hs : (e :: es).all noStar = true) (hn : (e :: es).length < 30) (hl : (apos.endLine == pos.line) = true) : OkO M X W (.Call (.Attribute o m apos) (e :: es) [] pos) (fMeth mt m (e :: es).length fo g) := by
  obtain ⟨P, w, K, mg, base, C⟩ := M
  have emd := ok.md
  simp only [mdOf, Md.mk.injEq, and_true] at emd
  obtain ⟨rfl, rfl, rfl, rfl, rfl⟩ := emd
  obtain ⟨ta, hta, hha⟩ := ho
  obtain ⟨t, ht, hh⟩ := ha.framed
  refine ⟨_, pe_methW hta ht ok.gd ok.tk hb hs hn hl, fun η σ as H Hs res Q hR hf hp => ?_⟩
  rcases bindR_inv hf with ⟨o1, η1, e1, e2⟩ | ⟨c, p, η1, e1, rfl⟩
  · refine hha η σ as H Hs _ _ hR e1 fun v as' H' Hs' r1 l1 x1 => ?_
    cases ec : o1.cls η1 with
    | none =>
      simp only [ec] at e2
      cases e2
    | some cf =>
      obtain ⟨c, fs⟩ := cf
      simp only [ec] at e2
      by_cases hm : m ∈ fs
      · rw [if_pos hm] at e2
        cases e2
      · rw [if_neg hm] at e2
        cases em : mt c with
        | none =>
          rw [em] at e2
          cases e2
        | some i =>
          rw [em] at e2
          simp only at e2
          obtain ⟨f, cl, me, cb, hle⟩ := hmt c i em
          obtain ⟨fd, ps, F, hd⟩ := cb.ex
          obtain ⟨dvs, ds, h1, h2, h3⟩ := hd _ hle
          obtain ⟨a, dx, vs0, rfl, ea, _⟩ := Opv.cls_ok r1 l1 ec
          refine ⟨a, C c, dx, _, f, fd, ps, k, _, dvs, ds, rfl, ea, cl, me, zip_none hm, F, ok.room, h3, h2, ?_⟩
          rcases bindR_inv e2 with ⟨os, η2, e3, e4⟩ | ⟨c', p, η2, e3, rfl⟩
          · refine hh [o1.p] [some (.ref a)] η1 σ as' H' Hs' _ _ r1 rfl e3 fun vs as2 H2 Hs2 r2 l2 x2 => ?_
            by_cases hlen : os.length = (e :: es).length
            · rw [if_pos hlen] at e4
              exact callR_ok h1 (os := o1 :: os) (vs := .ref a :: vs) r2 ⟨_, _, rfl, l1, l2⟩ (x1.trans x2) e4 hp
            · rw [if_neg hlen] at e4
              cases e4
          · refine hh [o1.p] [some (.ref a)] η1 σ as' H' Hs' _ _ r1 rfl e3 fun v2 dx2 as2 H2 Hs2 r2 hX x2 => ?_
            exact hp v2 dx2 as2 H2 Hs2 r2 hX (x1.trans x2)
  · exact hha η σ as H Hs _ _ hR e1 hp
theorem ok_meth0 {mt : Nat → Option Fi} {o : Expr} {fo : FO} {m : Str} {apos : Pos} (ok : Cok M S k W X) (hmt : MtOk M k m 0 mt) (ho : OkO M X W o fo)
    (hb : baseOk o = true) (hl : (apos.endLine == pos.line) = true) : OkO M X W (.Call (.Attribute o m apos) [] [] pos) (fMeth mt m 0 fo fNil) := by
  obtain ⟨P, w, K, mg, base, C⟩ := M
  have emd := ok.md
  simp only [mdOf, Md.mk.injEq, and_true] at emd
  obtain ⟨rfl, rfl, rfl, rfl, rfl⟩ := emd
  obtain ⟨ta, hta, hha⟩ := ho
  refine ⟨_, pe_methW0 hta ok.gd ok.tk hb hl, fun η σ as H Hs res Q hR hf hp => ?_⟩
  rcases bindR_inv hf with ⟨o1, η1, e1, e2⟩ | ⟨c, p, η1, e1, rfl⟩
  · refine hha η σ as H Hs _ _ hR e1 fun v as' H' Hs' r1 l1 x1 => ?_
    cases ec : o1.cls η1 with
    | none =>
      simp only [ec] at e2
      cases e2
    | some cf =>
      obtain ⟨c, fs⟩ := cf
      simp only [ec] at e2
      by_cases hm : m ∈ fs
      · rw [if_pos hm] at e2
        cases e2
      · rw [if_neg hm] at e2
        cases em : mt c with
        | none =>
          rw [em] at e2
          cases e2
        | some i =>
          rw [em] at e2
          simp only at e2
          obtain ⟨f, cl, me, cb, hle⟩ := hmt c i em
          obtain ⟨fd, ps, F, hd⟩ := cb.ex
          obtain ⟨dvs, ds, h1, h2, h3⟩ := hd _ hle
          obtain ⟨a, dx, vs0, rfl, ea, _⟩ := Opv.cls_ok r1 l1 ec
          refine ⟨a, C c, dx, _, f, fd, ps, k, _, dvs, ds, rfl, ea, cl, me, zip_none hm, F, ok.room, h3, h2, ?_⟩
          have e5 : callR i.n i.ms i.F (i.dv (0 + 1)) [o1] η1 = some res := e2
          exact callR_ok h1 (os := [o1]) (vs := [.ref a]) r1 ⟨_, _, rfl, l1, rfl⟩ x1 e5 hp
  · exact hha η σ as H Hs _ _ hR e1 hp

/-! ### attributes -/
theorem pass_no {X : Cx} : Passes (L2.CX X.prog X.w) X.nox (fun _ _ _ => False) := fun _ _ _ _ _ _ _ ⟨_, _, _, _, _, _, _, _, _, _, _, _, h⟩ => h.elim
theorem pe_attrW {e : Expr} {f : Str} {ta : TE} (he : PE X e ta) (gd : X.A.guards = some []) (hb : baseOk e = true) : PE X (.Attribute e f pos) (fun σ H Q => ta σ H fun x H1 => ∃ a C dx fs, x = .ref a ∧ H1 a = some (.ins C dx fs) ∧ Cls X.K C ∧
    ((NoAttr X.K C f ∧ ∃ v, fs.lookup f = some v ∧ Q v H1) ∨ ∃ p g fd ps j sp dvs ds, PropOf X.K C f p g ∧ FnG X.prog X.w X.K X.mg X.base j g fd ps sp ∧ Room (j + 1) X.A ∧ L2.Binds X.K fd ps ds ∧ Vals dvs ds ∧ sp (.ref a :: dvs) H1 Q (fun _ _ _ => False))) := by
  refine ⟨fun pins s σ H Q I h => ?_⟩
  refine attr_of (base_ok hb) (thn (he.run pins s σ H _ I h) fun u s1 ⟨x, H1, I1, rx, a, C, dx, fs, ex, ea, cl, q⟩ => ?_)
  subst ex
  obtain rfl : u = Value.ref a := rx
  rcases q with ⟨n, v, l, q⟩ | ⟨p, g, fd, ps, j, sp, dvs, ds, hp, F, hr, hbi, hd, q⟩
  · exact getattr_ok I1 ea cl n l fun u' s2 I2 ru => ⟨v, H1, I2, ru, q⟩
  · exact propG I1 ea cl hp F gd hr hbi hd pass_no q
def fieldG (f : Str) : List D → Option Val
  | [.obj _ fs xs] => (fs.idxOf? f).bind fun i => (xs[i]?).map .sh
  | _ => none
def okOnly (r : RO Opv) : RO Opv := match r with
  | some (.ok o η) => some (.ok o η)
  | _ => none
def fAttr (fc : Nat → Bool) (pt : Nat → Option Fi) (f : Str) (fo : FO) : FO := fun η => bindR (fo η) fun o η1 => match o.cls η1 with
  | some (c, fs) => if f ∈ fs then (if fc c then appR (fieldG f) [o] η1 else none) else (match pt c with
    | some i => okOnly (callR i.n i.ms i.F (i.dv 1) [o] η1)
    | none => none)
  | none => none
def FcOk (M : Md) (f : Str) (fc : Nat → Bool) : Prop := ∀ c, fc c = true → Cls M.K (M.C c) ∧ NoAttr M.K (M.C c) f
def PtOk (M : Md) (k : Nat) (f : Str) (pt : Nat → Option Fi) : Prop := ∀ c i, pt c = some i → ∃ p g j, k = j + 1 ∧ Cls M.K (M.C c) ∧ PropOf M.K (M.C c) f p g ∧ Cb M j g i.F i.n i.df ∧ i.df.length + 1 - i.n ≤ i.df.length
theorem ok_attr {fc : Nat → Bool} {pt : Nat → Option Fi} {e : Expr} {f : Str} {fo : FO} (ok : Cok M S k W X) (hfc : FcOk M f fc) (hpt : PtOk M k f pt) (ho : OkO M X W e fo) (hb : baseOk e = true) : OkO M X W (.Attribute e f pos) (fAttr fc pt f fo) := by
  obtain ⟨P, w, K, mg, base, C⟩ := M
  have emd := ok.md
  simp only [mdOf, Md.mk.injEq, and_true] at emd
  obtain ⟨rfl, rfl, rfl, rfl, rfl⟩ := emd
  obtain ⟨ta, hta, hha⟩ := ho
  refine ⟨_, pe_attrW hta ok.gd hb, fun η σ as H Hs res Q hR hf hp => ?_⟩
  rcases bindR_inv hf with ⟨o1, η1, e1, e2⟩ | ⟨c, p, η1, e1, rfl⟩
  · refine hha η σ as H Hs _ _ hR e1 fun v as' H' Hs' r1 l1 x1 => ?_
    cases ec : o1.cls η1 with
    | none =>
      simp only [ec] at e2
      cases e2
    | some cf =>
      obtain ⟨c, fs⟩ := cf
      simp only [ec] at e2
      obtain ⟨a, dx, vs0, rfl, ea, l0⟩ := Opv.cls_ok r1 l1 ec
      by_cases hm : f ∈ fs
      · rw [if_pos hm] at e2
        by_cases hc : fc c = true
        · rw [if_pos hc] at e2
          obtain ⟨cl, na⟩ := hfc c hc
          refine ⟨a, C c, dx, _, rfl, ea, cl, .inl ⟨na, ?_⟩⟩
          -- the field, by the data
          refine app_ok (r := fun vs H Q => ∀ x, vs = [x] → ∀ a, x = .ref a → ∀ fs', H a = some (.ins (C c) dx fs') → ∃ v, fs'.lookup f = some v ∧ Q v H) (fun ds x vs H Q' Q2 hg hle ht hq => ?_) (os := [o1]) (vs := [.ref a]) r1 ⟨_, _, rfl, l1, rfl⟩ x1 e2 hp _ rfl a rfl _ ea
          intro y ey b eb fs' efs
          subst ey
          subst eb
          cases ds with
          | nil => cases hg
          | cons d ds =>
            cases d with
            | obj c2 fs2 xs2 =>
              cases ds with
              | nil =>
                simp only [fieldG, Option.bind_eq_some_iff, Option.map_eq_some_iff] at hg
                obtain ⟨i, hi, z, hz, rfl⟩ := hg
                obtain ⟨v1, ws, e7, ht1, _⟩ := ht
                obtain ⟨e8, rfl⟩ := List.cons.inj e7
                obtain ⟨a2, dx2, vs2, e9, e10, l2, rd⟩ := ht1
                rw [← e8] at e9
                obtain rfl := V.ref.inj e9
                rw [e10] at efs
                have e11 := Option.some.inj efs
                simp only [HO.ins.injEq] at e11
                obtain ⟨_, _, rfl⟩ := e11
                obtain ⟨v2, h5, h6⟩ := zip_some hi l2
                obtain ⟨v3, h7, h8⟩ := rd.get hz
                rw [h5] at h7
                obtain rfl := Option.some.inj h7
                exact ⟨v2, h6, hq v2 [] _ Sub.refl (RepV.sh_iff.mpr ⟨rfl, h8⟩) List.nodup_nil (fun _ z => nomatch z)⟩
              | cons _ _ => cases hg
            | _ => cases hg
        · rw [if_neg hc] at e2
          cases e2
      · rw [if_neg hm] at e2
        cases em : pt c with
        | none =>
          rw [em] at e2
          cases e2
        | some i =>
          rw [em] at e2
          simp only at e2
          obtain ⟨p, g, j, rfl, cl, po, cb, hle⟩ := hpt c i em
          obtain ⟨fd, ps, F, hd⟩ := cb.ex
          obtain ⟨dvs, ds, h1, h2, h3⟩ := hd _ hle
          refine ⟨a, C c, dx, _, rfl, ea, cl, .inr ⟨p, g, fd, ps, j, _, dvs, ds, po, F, ok.room, h3, h2, ?_⟩⟩
          cases e5 : callR i.n i.ms i.F (i.dv 1) [o1] η1 with
          | none =>
            rw [e5] at e2
            cases e2
          | some rr =>
            rw [e5] at e2
            cases rr with
            | exc c' p' η' => cases e2
            | ok o2 η2 =>
              obtain rfl : res = .ok o2 η2 := (Option.some.inj e2).symm
              exact callR_ok (W := fun _ _ _ _ => False) h1 (os := [o1]) (vs := [.ref a]) r1 ⟨_, _, rfl, l1, rfl⟩ x1 e5 hp
  · exact hha η σ as H Hs _ _ hR e1 hp
end
end Wp
end
section
set_option Elab.async false
set_option linter.all false
set_option maxRecDepth 100000
/-! WpF: objects made; tests; conditional expressions. -/
namespace Wp
open PySem PySem.Spec PyProof.Rows L2
section
variable {M : Md} {S : Sc} {k : Nat} {W : WX} {X : Cx} {pos p : Pos} {x : Str} {g : FL}

/-! ### a class called -/
theorem run_makeW {C f : Addr} {fd : FuncData} {ps : List Str} {j : Nat} {sp : Sp} {dvs : List V} {ds : List Value} {pins : List (Addr × Obj)} {σ : L2.St} {H : Hp} {s : Shared} {Q : VK} {us : List Value} {vs : List V} (mk : Mk X.K C f)
    (F : FnG X.prog X.w X.K X.mg X.base j f fd ps sp) (gd : X.A.guards = some []) (hr : Room (j + 1) X.A) (hb : L2.Binds X.K fd ps ds) (hd : Vals dvs ds) (tk : Takes X W) (I : Inv X pins σ H s) (r : Vals vs us)
    (h : ∀ x dx, H x = none → H dx = none → dx ≠ x → sp (.ref x :: (vs ++ dvs)) (upd (upd H dx (.own x)) x (.ins C dx [])) (fun v H2 => v = .non ∧ Q (.ref x) H2) (WE W σ)) :
    wpAny (model X.prog X.w) X.A (call (.ref C) us) (EP X pins σ Q) X.xe s := by
  have new1 := I.hok.fresh (Nat.le_succ s.heap.objs.size)
  have new2 := I.hok.fresh (Nat.le_refl s.heap.objs.size)
  have hq := h (s.heap.objs.size + 1) s.heap.objs.size new1 new2 (Nat.ne_of_lt (Nat.lt_succ_self _))
  have I2 := Inv.made (C := C) I
  have r2 : Vals (V.ref (s.heap.objs.size + 1) :: (vs ++ dvs)) (Value.ref (s.heap.objs.size + 1) :: (us ++ ds)) := .cons rfl (r.append hd)
  have hl : ((Value.ref (s.heap.objs.size + 1) :: us) ++ ds).length = ps.length := r2.length.symm.trans (F.len _ _ _ _ hq)
  have bt := hb _ (Value.ref (s.heap.objs.size + 1) :: us) I2.kIn hl
  have run := F.run _ X.stack _ _ ⟨Value.ref (s.heap.objs.size + 1) :: us, []⟩ _ _ _ (WE W σ) (by show pushGuards (Code.builtin "type.__call__" ⟨.ref C :: us, []⟩).guards X.A.guards = some []; rw [gd, show (Code.builtin "type.__call__" ⟨.ref C :: us, []⟩).guards = [] from rfl]; rfl) (hr.make C us []) (I2.env0.make C us []) bt r2 hq
  refine wpAny_call (make_map (f := f) I.kIn mk.makes mk.init (beq_iff_eq.mp mk.fn) (codeAny_mono run fun res s' hq' => ?_))
  cases res with
  | error e => exact passAt tk σ pins _ _ e s' I2 hq'
  | ok fl =>
    cases fl with
    | ret u =>
      obtain ⟨v, H', I3, rv, ev, q3⟩ := I2.after hq'
      subst ev
      exact ⟨rv, ⟨V.ref (s.heap.objs.size + 1), H', I3, rfl, q3⟩⟩
    | _ => exact False.elim hq'
theorem pe_makeW {C f : Addr} {fd : FuncData} {ps : List Str} {j : Nat} {sp : Sp} {dvs : List V} {ds : List Value} {e : Expr} {es : List Expr} {t : TA} (mk : Mk X.K C f) (F : FnG X.prog X.w X.K X.mg X.base j f fd ps sp) (gd : X.A.guards = some []) (hr : Room (j + 1) X.A)
    (hg : Gl X x) (hm : X.mg x = some (.ref C)) (hb : L2.Binds X.K fd ps ds) (hd : Vals dvs ds) (tk : Takes X W) (ha : PA X (e :: es) t) (hdb : (x == ("__debug__" : Str)) = false) (hs : (e :: es).all noStar = true) :
    PE X (.Call (.Name x p) (e :: es) [] pos) (fun σ H Q => t σ H fun vs H1 => ∀ y dy, H1 y = none → H1 dy = none → dy ≠ y → sp (.ref y :: (vs ++ dvs)) (upd (upd H1 dy (.own y)) y (.ins C dy [])) (fun v H2 => v = .non ∧ Q (.ref y) H2) (WE W σ)) := by
  refine ⟨fun pins s σ H Q I h => ?_⟩
  rw [List.all_cons, Bool.and_eq_true] at hs
  refine wpAny_Call_Name_kw (ld_glob I hg hm ?_ hdb)
  refine PySem.W.callWith_K (h₀ := X.base) I.ok.mod.kin mk.kp (thn (ha.run pos pins s σ H _ I h) fun us s1 ⟨vs, H1, I1, r, q⟩ => ⟨I1.kIn, ?_⟩) (star_cons hs.1) (star_plain hs.2)
  exact run_makeW mk F gd hr hb hd tk I1 r q
def fMake (c na : Nat) (i : Fi) (g : FL) : FO := fun η => bindR (g η) fun os η1 => if os.length = na then makeR c i.n i.ms i.F (i.dv (na + 1)) os η1 else none
theorem ok_make {i : Fi} {c : Nat} {f : Addr} {e : Expr} {es : List Expr} {j : Nat} (ok : Cok M S (j + 1) W X) (hg : S.sc.names.lookup x = some .globalImplicit) (hm : M.mg x = some (.ref (M.C c))) (mk : Mk M.K (M.C c) f) (hdb : (x == ("__debug__" : Str)) = false)
    (cb : Cb M j f i.F i.n i.df) (hs : (e :: es).all noStar = true) (hn : i.df.length + ((e :: es).length + 1) - i.n ≤ i.df.length) (ha : OkL M X W (e :: es) g) : OkO M X W (.Call (.Name x p) (e :: es) [] pos) (fMake c (e :: es).length i g) := by
  obtain ⟨P, w, K, mg, base, C⟩ := M
  have emd := ok.md
  simp only [mdOf, Md.mk.injEq, and_true] at emd
  obtain ⟨rfl, rfl, rfl, rfl, rfl⟩ := emd
  obtain ⟨fd, ps, F, hd⟩ := cb.ex
  obtain ⟨dvs, ds, h1, h2, h3⟩ := hd _ hn
  obtain ⟨t, ht, hh⟩ := ha
  have hgl : Gl X x := by
    show X.env.scope.names.lookup x = _
    rw [ok.sc]
    exact hg
  refine ⟨_, pe_makeW mk F ok.gd ok.room hgl hm h3 h2 ok.tk ht hdb hs, fun η σ as H Hs res Q hR hf hp => ?_⟩
  rcases bindR_inv hf with ⟨os, η1, e1, e2⟩ | ⟨c, p, η1, e1, rfl⟩
  · refine hh η σ as H Hs _ _ hR e1 fun vs as' H' Hs' r1 l1 x1 => ?_
    by_cases hlen : os.length = (e :: es).length
    · rw [if_pos hlen] at e2
      exact fun y dy ny ndy ney => makeR_ok h1 r1 l1 x1 e2 hp y dy ny ndy ney
    · rw [if_neg hlen] at e2
      cases e2
  · exact hh η σ as H Hs _ _ hR e1 hp

/-! ### tests -/
abbrev FT := Env → RO Bool
def PostT (G : Gc) (W : WX) (σ : L2.St) (as : List Addr) (H Hs : Hp) (Q : Bool → Hp → Prop) : Res Bool → Prop
  | .ok b η' => ∀ as' H' Hs', Rep G η' σ as' H' Hs' → Ext as H Hs as' H' Hs' → Q b H'
  | .exc c p η' => PostX G W σ as H Hs c p η'
def OkT (M : Md) (X : Cx) (W : WX) (e : Expr) (f : FT) : Prop :=
  ∃ t, PT X e t ∧ ∀ η σ as H Hs r Q, Rep M.G η σ as H Hs → f η = some r → PostT M.G W σ as H Hs Q r → t σ H Q
/-- a value's truth -/
def truthD : D → Option Bool
  | .bl b => some b
  | .non => some false
  | .int i => some (i != 0)
  | .str x => if x.length ≤ sizeLine then some ((x.length : Int) != 0) else none
  | .lst xs => some (!xs.isEmpty)
  | .tup xs => some (!xs.isEmpty)
  | _ => none
def truR (o : Opv) (η : Env) : RO Bool := match prepAll [o] η with
  | some ([d], η1) => (match truthD d with
    | some b => okR b η1
    | none => none)
  | _ => none
theorem isEmpty_ds {G : Gc} {H : Hp} {ds : List D} {vs : List V} (h : RepDs G H ds vs) : (!ds.isEmpty) = !vs.isEmpty := by
  cases ds with
  | nil =>
    rw [RepDs.nil_iff] at h
    rw [h]
    rfl
  | cons d ds =>
    obtain ⟨v, ws, rfl, _⟩ := h.uncons
    rfl
theorem truthD_ok {G : Gc} {H Hs : Hp} {d : D} {v : V} {b : Bool} (h : RepT G H Hs d v) (e : truthD d = some b) : TruV G.K v H b := by
  cases d with
  | non =>
    obtain rfl : v = .non := h
    exact (Option.some.inj e).symm
  | bl c =>
    obtain rfl : v = .bl c := h
    exact (Option.some.inj e).symm
  | int i =>
    obtain rfl : v = .int i := h
    exact (Option.some.inj e).symm
  | str z =>
    obtain rfl : v = .str z := h
    simp only [truthD] at e
    by_cases hz : z.length ≤ sizeLine
    · rw [if_pos hz] at e
      exact ⟨hz, (Option.some.inj e).symm⟩
    · rw [if_neg hz] at e
      cases e
  | lst xs =>
    obtain ⟨a, vs, rfl, q, r⟩ := h
    exact .inl ⟨vs, q, by rw [← isEmpty_ds r]; exact (Option.some.inj e).symm⟩
  | tup xs =>
    obtain ⟨a, vs, rfl, q, r⟩ := h
    exact .inr (.inl ⟨vs, q, by rw [← isEmpty_ds r]; exact (Option.some.inj e).symm⟩)
  | _ => cases e
def fTru (f : FO) : FT := fun η => bindR (f η) truR
/-- expressions whose test is their value's -/
def plainTest : Expr → Bool
  | .Name .. => true
  | .Call .. => true
  | .Attribute .. => true
  | .Subscript .. => true
  | .Constant .. => true
  | .BinOp .. => true
  | .List .. => true
  | .ListComp .. => true
  | _ => false
theorem plain_test {e : Expr} {env : PySem.Env} (h : plainTest e = true) : ∀ whole, isTrue e env whole = (do let v ← whole; standAt e.pos; holding [v] (truthy v)) := by
  cases e <;> first | (intro _; rfl) | cases h
theorem truR_inv {o : Opv} {η : Env} {r : Res Bool} (h : truR o η = some r) : ∃ d η1 b, prepAll [o] η = some ([d], η1) ∧ truthD d = some b ∧ r = .ok b η1 := by
  unfold truR at h
  cases e : prepAll [o] η with
  | none =>
    rw [e] at h
    cases h
  | some p =>
    obtain ⟨ds, η1⟩ := p
    rw [e] at h
    cases ds with
    | nil => cases h
    | cons d ds =>
      cases ds with
      | cons _ _ => cases h
      | nil =>
        simp only at h
        cases et : truthD d with
        | none =>
          rw [et] at h
          cases h
        | some b =>
          rw [et] at h
          exact ⟨d, η1, b, rfl, et, (Option.some.inj h).symm⟩
theorem okT_tru {e : Expr} {f : FO} (ok : Cok M S k W X) (ho : OkO M X W e f) (hp : plainTest e = true) : OkT M X W e (fTru f) := by
  obtain ⟨P, w, K, mg, base, C⟩ := M
  have emd := ok.md
  simp only [mdOf, Md.mk.injEq, and_true] at emd
  obtain ⟨rfl, rfl, rfl, rfl, rfl⟩ := emd
  obtain ⟨t, ht, hh⟩ := ho
  refine ⟨_, pt_truth ht (plain_test hp), fun η σ as H Hs res Q hR hf hpo => ?_⟩
  rcases bindR_inv hf with ⟨o, η1, e1, e2⟩ | ⟨c, p, η1, e1, rfl⟩
  · refine hh η σ as H Hs _ _ hR e1 fun v as' H' Hs' r1 l1 x1 => ?_
    obtain ⟨d, η2, b, e3, e4, rfl⟩ := truR_inv e2
    obtain ⟨as2, Hs2, r2, x2, t2⟩ := prep_ok (os := [o]) (vs := [v]) r1 ⟨_, _, rfl, l1, rfl⟩ e3
    obtain ⟨w2, ws, e5, t3, _⟩ := t2
    obtain ⟨rfl, rfl⟩ := List.cons.inj e5
    exact ⟨b, truthD_ok t3 e4, hpo as2 H' Hs2 r2 (x1.trans x2)⟩
  · exact hh η σ as H Hs _ _ hR e1 hpo
/-- a comparison that gives a truth value -/
def blOf (o : Opv) (η : Env) : RO Bool := match o with
  | .pend (.sh (.bl b)) => okR b η
  | _ => none
def fBl (f : FO) : FT := fun η => bindR (f η) blOf
theorem okT_of {e : Expr} {f : FO} (he : ∃ t, PE X e t ∧ PT X e (tTest t) ∧ ∀ η σ as H Hs r Q, Rep M.G η σ as H Hs → f η = some r → PostO M.G W σ as H Hs Q r → t σ H Q) : OkT M X W e (fBl f) := by
  obtain ⟨t, _, ht, hh⟩ := he
  refine ⟨_, ht, fun η σ as H Hs res Q hR hf hpo => ?_⟩
  rcases bindR_inv hf with ⟨o, η1, e1, e2⟩ | ⟨c, p, η1, e1, rfl⟩
  · refine hh η σ as H Hs _ _ hR e1 fun v as' H' Hs' r1 l1 x1 => ?_
    cases o with
    | slot i => cases e2
    | pend y =>
      cases y with
      | sh d =>
        cases d with
        | bl b =>
          obtain rfl : res = .ok b η1 := (Option.some.inj e2).symm
          obtain ⟨w, σ', a1, a2, e5, rfl, p1, q1⟩ := r1.env
          obtain ⟨e6, rfl⟩ := List.cons.inj e5
          obtain rfl : v = w := Option.some.inj e6
          obtain ⟨rfl, rd⟩ := RepV.sh_iff.mp p1
          simp only [RepD] at rd
          obtain ⟨as2, r2, m2⟩ := r1.pop
          exact ⟨b, rd, hpo as2 H' Hs' r2 (x1.less m2)⟩
        | _ => cases e2
      | _ => cases e2
  · exact hh η σ as H Hs _ _ hR e1 hpo

/-! ### and, or, not -/
variable {a b : Expr} {rest : List Expr} {fa fb : FT}
def fAndT (fa fb : FT) : FT := fun η => bindR (fa η) fun c η1 => if c then fb η1 else okR false η1
def fOrT (fa fb : FT) : FT := fun η => bindR (fa η) fun c η1 => if c then okR true η1 else fb η1
def fNotT (fa : FT) : FT := fun η => bindR (fa η) fun c η1 => okR (!c) η1
/-- a test whatever its whole is -/
def OkW (M : Md) (X : Cx) (W : WX) (e : Expr) (f : FT) : Prop :=
  ∃ t, PW X e t ∧ ∀ η σ as H Hs r Q, Rep M.G η σ as H Hs → f η = some r → PostT M.G W σ as H Hs Q r → t σ H Q
theorem OkW.t {e : Expr} {f : FT} (h : OkW M X W e f) : OkT M X W e f := let ⟨t, ht, hh⟩ := h; ⟨t, ht.pt, hh⟩
theorem okW_and1 (ha : OkT M X W a fa) : OkW M X W (.BoolOp .And [a] pos) fa := let ⟨t, ht, hh⟩ := ha; ⟨t, pw_and1 ht, hh⟩
theorem okW_or1 (ha : OkT M X W a fa) : OkW M X W (.BoolOp .Or [a] pos) fa := let ⟨t, ht, hh⟩ := ha; ⟨t, pw_or1 ht, hh⟩
theorem okW_and (ha : OkT M X W a fa) (hb : OkW M X W (.BoolOp .And (b :: rest) pos) fb) : OkW M X W (.BoolOp .And (a :: b :: rest) pos) (fAndT fa fb) := by
  obtain ⟨ta, hta, hha⟩ := ha
  obtain ⟨tb, htb, hhb⟩ := hb
  refine ⟨_, pw_and hta htb, fun η σ as H Hs res Q hR hf hp => ?_⟩
  rcases bindR_inv hf with ⟨c, η1, e1, e2⟩ | ⟨c, p, η1, e1, rfl⟩
  · refine hha η σ as H Hs _ _ hR e1 fun as' H' Hs' r1 x1 => ?_
    cases c with
    | true =>
      show tb σ H' Q
      refine hhb η1 σ as' H' Hs' res Q r1 e2 ?_
      cases res with
      | ok b2 η2 => exact fun as2 H2 Hs2 r2 x2 => hp as2 H2 Hs2 r2 (x1.trans x2)
      | exc c p η2 => exact fun v dx as2 H2 Hs2 r2 hX x2 => hp v dx as2 H2 Hs2 r2 hX (x1.trans x2)
    | false =>
      obtain rfl : res = .ok false η1 := (Option.some.inj e2).symm
      show Q false H'
      exact hp as' H' Hs' r1 x1
  · exact hha η σ as H Hs _ _ hR e1 hp
theorem okW_or (ha : OkT M X W a fa) (hb : OkW M X W (.BoolOp .Or (b :: rest) pos) fb) : OkW M X W (.BoolOp .Or (a :: b :: rest) pos) (fOrT fa fb) := by
  obtain ⟨ta, hta, hha⟩ := ha
  obtain ⟨tb, htb, hhb⟩ := hb
  refine ⟨_, pw_or hta htb, fun η σ as H Hs res Q hR hf hp => ?_⟩
  rcases bindR_inv hf with ⟨c, η1, e1, e2⟩ | ⟨c, p, η1, e1, rfl⟩
  · refine hha η σ as H Hs _ _ hR e1 fun as' H' Hs' r1 x1 => ?_
    cases c with
    | false =>
      show tb σ H' Q
      refine hhb η1 σ as' H' Hs' res Q r1 e2 ?_
      cases res with
      | ok b2 η2 => exact fun as2 H2 Hs2 r2 x2 => hp as2 H2 Hs2 r2 (x1.trans x2)
      | exc c p η2 => exact fun v dx as2 H2 Hs2 r2 hX x2 => hp v dx as2 H2 Hs2 r2 hX (x1.trans x2)
    | true =>
      obtain rfl : res = .ok true η1 := (Option.some.inj e2).symm
      show Q true H'
      exact hp as' H' Hs' r1 x1
  · exact hha η σ as H Hs _ _ hR e1 hp
theorem okT_not (ha : OkT M X W a fa) : OkT M X W (.UnaryOp .Not a pos) (fNotT fa) := by
  obtain ⟨ta, hta, hha⟩ := ha
  refine ⟨_, pt_not hta, fun η σ as H Hs res Q hR hf hp => ?_⟩
  rcases bindR_inv hf with ⟨c, η1, e1, e2⟩ | ⟨c, p, η1, e1, rfl⟩
  · refine hha η σ as H Hs _ _ hR e1 fun as' H' Hs' r1 x1 => ?_
    obtain rfl : res = .ok (!c) η1 := (Option.some.inj e2).symm
    exact hp as' H' Hs' r1 x1
  · exact hha η σ as H Hs _ _ hR e1 hp

/-! ### as values -/
theorem PostO.from {G : Gc} {σ : L2.St} {as as1 : List Addr} {H Hs H1 Hs1 : Hp} {Q : VK} {r : Res Opv} (x : Ext as H Hs as1 H1 Hs1) (h : PostO G W σ as H Hs Q r) : PostO G W σ as1 H1 Hs1 Q r := by
  cases r with
  | ok o η' => exact fun v as2 H2 Hs2 r2 l2 x2 => h v as2 H2 Hs2 r2 l2 (x.trans x2)
  | exc c p η' => exact fun v dx as2 H2 Hs2 r2 hX x2 => h v dx as2 H2 Hs2 r2 hX (x.trans x2)
variable {c : Expr} {ga gb : FO} {fc : FT}
def fIte (fc : FT) (ga gb : FO) : FO := fun η => bindR (fc η) fun t η1 => if t then ga η1 else gb η1
theorem ok_ite (hc : OkT M X W c fc) (ha : OkO M X W a ga) (hb : OkO M X W b gb) : OkO M X W (.IfExp c a b pos) (fIte fc ga gb) := by
  obtain ⟨tc, htc, hhc⟩ := hc
  obtain ⟨ta, hta, hha⟩ := ha
  obtain ⟨tb, htb, hhb⟩ := hb
  refine ⟨_, pe_ifExp htc hta htb, fun η σ as H Hs res Q hR hf hp => ?_⟩
  rcases bindR_inv hf with ⟨t, η1, e1, e2⟩ | ⟨c, p, η1, e1, rfl⟩
  · refine hhc η σ as H Hs _ _ hR e1 fun as' H' Hs' r1 x1 => ?_
    cases t with
    | true => exact hha η1 σ as' H' Hs' res Q r1 e2 (hp.from x1)
    | false => exact hhb η1 σ as' H' Hs' res Q r1 e2 (hp.from x1)
  · exact hhc η σ as H Hs _ _ hR e1 hp
/-- the value must be a truth value -/
def fAndV (ga gb : FO) : FO := fun η => bindR (ga η) fun o η1 => bindR (blOf o η1) fun t η2 => if t then gb η2 else okR (.pend (.sh (.bl false))) η2
def fOrV (ga gb : FO) : FO := fun η => bindR (ga η) fun o η1 => bindR (blOf o η1) fun t η2 => if t then okR (.pend (.sh (.bl true))) η2 else gb η2
def fNotV (ga : FO) : FO := fun η => bindR (ga η) fun o η1 => bindR (blOf o η1) fun t η2 => okR (.pend (.sh (.bl (!t)))) η2
theorem blOf_inv {G : Gc} {o : Opv} {η : Env} {σ : L2.St} {v : V} {as : List Addr} {H Hs : Hp} {r : Res Bool} (h : blOf o η = some r) (hr : Rep G (o.p :: η) (some v :: σ) as H Hs) : ∃ t as', r = .ok t η ∧ v = .bl t ∧ Rep G η σ as' H Hs ∧ (∀ a ∈ as', a ∈ as) := by
  cases o with
  | slot i => cases h
  | pend y =>
    cases y with
    | sh d =>
      cases d with
      | bl t =>
        obtain rfl : r = .ok t η := (Option.some.inj h).symm
        obtain ⟨w, σ', a1, a2, e5, rfl, p1, q1⟩ := hr.env
        obtain ⟨e6, rfl⟩ := List.cons.inj e5
        obtain rfl : v = w := Option.some.inj e6
        obtain ⟨rfl, rd⟩ := RepV.sh_iff.mp p1
        simp only [RepD] at rd
        obtain ⟨as2, r2, m2⟩ := hr.pop
        exact ⟨t, as2, rfl, rd, r2, m2⟩
      | _ => cases h
    | _ => cases h
theorem ok_one {op : BoolOp} (ha : OkO M X W a ga) : OkO M X W (.BoolOp op [a] pos) ga := let ⟨t, ht, hh⟩ := ha; ⟨t, pe_one ht, hh⟩
theorem ok_and (ha : OkO M X W a ga) (hb : OkO M X W (.BoolOp .And (b :: rest) pos) gb) : OkO M X W (.BoolOp .And (a :: b :: rest) pos) (fAndV ga gb) := by
  obtain ⟨ta, hta, hha⟩ := ha
  obtain ⟨tb, htb, hhb⟩ := hb
  refine ⟨_, pe_and hta htb, fun η σ as H Hs res Q hR hf hp => ?_⟩
  rcases bindR_inv hf with ⟨o, η1, e1, e2⟩ | ⟨c, p, η1, e1, rfl⟩
  · refine hha η σ as H Hs _ _ hR e1 fun v as' H' Hs' r1 l1 x1 => ?_
    rcases bindR_inv e2 with ⟨t, η2, e3, e4⟩ | ⟨c, p, η2, e3, rfl⟩
    · obtain ⟨t', as2, e5, rfl, r2, m2⟩ := blOf_inv e3 r1
      injection e5 with e6 e7
      subst e6 e7
      refine ⟨t, rfl, ?_⟩
      cases t with
      | true =>
        show tb σ H' Q
        exact hhb η2 σ as2 H' Hs' res Q r2 e4 (hp.from (x1.less m2))
      | false =>
        obtain rfl : res = .ok (.pend (.sh (.bl false))) η2 := (Option.some.inj e4).symm
        show Q (.bl false) H'
        exact hp _ as2 H' Hs' (r2.push_sh (by simp only [RepD])) trivial (x1.less m2)
    · obtain ⟨t', as2, e5, rfl, r2, m2⟩ := blOf_inv e3 r1
      cases e5
  · exact hha η σ as H Hs _ _ hR e1 hp
theorem ok_or (ha : OkO M X W a ga) (hb : OkO M X W (.BoolOp .Or (b :: rest) pos) gb) : OkO M X W (.BoolOp .Or (a :: b :: rest) pos) (fOrV ga gb) := by
  obtain ⟨ta, hta, hha⟩ := ha
  obtain ⟨tb, htb, hhb⟩ := hb
  refine ⟨_, pe_or hta htb, fun η σ as H Hs res Q hR hf hp => ?_⟩
  rcases bindR_inv hf with ⟨o, η1, e1, e2⟩ | ⟨c, p, η1, e1, rfl⟩
  · refine hha η σ as H Hs _ _ hR e1 fun v as' H' Hs' r1 l1 x1 => ?_
    rcases bindR_inv e2 with ⟨t, η2, e3, e4⟩ | ⟨c, p, η2, e3, rfl⟩
    · obtain ⟨t', as2, e5, rfl, r2, m2⟩ := blOf_inv e3 r1
      injection e5 with e6 e7
      subst e6 e7
      refine ⟨t, rfl, ?_⟩
      cases t with
      | false =>
        show tb σ H' Q
        exact hhb η2 σ as2 H' Hs' res Q r2 e4 (hp.from (x1.less m2))
      | true =>
        obtain rfl : res = .ok (.pend (.sh (.bl true))) η2 := (Option.some.inj e4).symm
        show Q (.bl true) H'
        exact hp _ as2 H' Hs' (r2.push_sh (by simp only [RepD])) trivial (x1.less m2)
    · obtain ⟨t', as2, e5, rfl, r2, m2⟩ := blOf_inv e3 r1
      cases e5
  · exact hha η σ as H Hs _ _ hR e1 hp
theorem ok_not (ha : OkO M X W a ga) : OkO M X W (.UnaryOp .Not a pos) (fNotV ga) := by
  obtain ⟨ta, hta, hha⟩ := ha
  refine ⟨_, pe_not hta, fun η σ as H Hs res Q hR hf hp => ?_⟩
  rcases bindR_inv hf with ⟨o, η1, e1, e2⟩ | ⟨c, p, η1, e1, rfl⟩
  · refine hha η σ as H Hs _ _ hR e1 fun v as' H' Hs' r1 l1 x1 => ?_
    rcases bindR_inv e2 with ⟨t, η2, e3, e4⟩ | ⟨c, p, η2, e3, rfl⟩
    · obtain ⟨t', as2, e5, rfl, r2, m2⟩ := blOf_inv e3 r1
      injection e5 with e6 e7
      subst e6 e7
      obtain rfl : res = .ok (.pend (.sh (.bl (!t)))) η2 := (Option.some.inj e4).symm
      exact ⟨t, rfl, hp _ as2 H' Hs' (r2.push_sh (by simp only [RepD])) trivial (x1.less m2)⟩
    · obtain ⟨t', as2, e5, rfl, r2, m2⟩ := blOf_inv e3 r1
      cases e5
  · exact hha η σ as H Hs _ _ hR e1 hp
end
end Wp
end
section
set_option Elab.async false
set_option linter.all false
set_option maxRecDepth 100000
/-! WpG: statements over data. -/
namespace Wp
open PySem PySem.Spec PyProof.Rows L2

inductive Flw where
  | next | ret (x : Val) | brk | cont
abbrev FS := Env → RO Flw
def Kept (kp : List Nat) (σ σ' : L2.St) : Prop := ∀ i ∈ kp, σ'[i]? = σ[i]?
theorem Kept.refl {kp : List Nat} {σ : L2.St} : Kept kp σ σ := fun _ _ => rfl
theorem Kept.trans {kp : List Nat} {σ σ' σ'' : L2.St} (a : Kept kp σ σ') (b : Kept kp σ' σ'') : Kept kp σ σ'' := fun i hi => (b i hi).trans (a i hi)
/-- what holds behind a way out -/
def At (G : Gc) (kp : List Nat) (σ : L2.St) (as : List Addr) (H Hs : Hp) (η' : Env) (P : L2.St → Hp → Prop) : Prop :=
  ∀ σ' as' H' Hs', Rep G η' σ' as' H' Hs' → Ext as H Hs as' H' Hs' → Kept kp σ σ' → P σ' H'
def PostS (G : Gc) (W : WX) (kp : List Nat) (σ : L2.St) (as : List Addr) (H Hs : Hp) (D : Ends) : Res Flw → Prop
  | .ok .next η' => At G kp σ as H Hs η' D.nx
  | .ok .brk η' => At G kp σ as H Hs η' D.bk
  | .ok .cont η' => At G kp σ as H Hs η' D.ct
  | .ok (.ret x) η' => ∀ v σ' as' H' Hs', Rep G (some x :: η') (some v :: σ') as' H' Hs' → Ext as H Hs as' H' Hs' → Kept kp σ σ' → D.rt v H'
  | .exc c p η' => ∀ u dx σ' as' H' Hs', Rep G (p :: η') (u :: σ') as' H' Hs' → XRep H' p u dx → Ext as H Hs as' H' Hs' → Kept kp σ σ' → W (.ref (G.C c)) dx σ' H'
section
variable {G : Gc} {W : WX} {kp : List Nat} {σ σ1 : L2.St} {as as1 : List Addr} {H Hs H1 Hs1 : Hp} {D : Ends} {η' : Env}
theorem At.from {P : L2.St → Hp → Prop} (h : At G kp σ as H Hs η' P) (x : Ext as H Hs as1 H1 Hs1) (k : Kept kp σ σ1) : At G kp σ1 as1 H1 Hs1 η' P := fun σ2 as2 H2 Hs2 r2 x2 k2 => h σ2 as2 H2 Hs2 r2 (x.trans x2) (k.trans k2)
theorem PostS.from {r : Res Flw} (h : PostS G W kp σ as H Hs D r) (x : Ext as H Hs as1 H1 Hs1) (k : Kept kp σ σ1) : PostS G W kp σ1 as1 H1 Hs1 D r := by
  cases r with
  | ok f η' =>
    cases f with
    | ret y => exact fun v σ2 as2 H2 Hs2 r2 x2 k2 => h v σ2 as2 H2 Hs2 r2 (x.trans x2) (k.trans k2)
    | next => exact At.from h x k
    | brk => exact At.from h x k
    | cont => exact At.from h x k
  | exc c p η' => exact fun u dx σ2 as2 H2 Hs2 r2 hX x2 k2 => h u dx σ2 as2 H2 Hs2 r2 hX (x.trans x2) (k.trans k2)
theorem PostX.toS {c : Nat} {p : Option Val} (h : PostS G W kp σ as H Hs D (.exc c p η')) : PostX G W σ as H Hs c p η' := fun v dx as' H' Hs' r hX x => h v dx σ as' H' Hs' r hX x Kept.refl
end
section
variable {M : Md} {S : Sc} {k : Nat} {W : WX} {X : Cx} {kp : List Nat} {pos : Pos}
def OkS (M : Md) (X : Cx) (W : WX) (kp : List Nat) (st : Stmt) (f : FS) : Prop :=
  ∃ t, PS X st t ∧ ∀ η σ as H Hs r D, Rep M.G η σ as H Hs → f η = some r → PostS M.G W kp σ as H Hs D r → t D σ H
def OkB (M : Md) (X : Cx) (W : WX) (kp : List Nat) (st : List Stmt) (f : FS) : Prop :=
  ∃ t, PSs X st t ∧ ∀ η σ as H Hs r D, Rep M.G η σ as H Hs → f η = some r → PostS M.G W kp σ as H Hs D r → t D σ H

/-! ### blocks -/
def fNext : FS := fun η => okR .next η
def fSeq (f g : FS) : FS := fun η => bindR (f η) fun w η1 => match w with
  | .next => g η1
  | w => okR w η1
theorem okB_nil : OkB M X W kp [] fNext := by
  refine ⟨_, pss_nil, fun η σ as H Hs r D hR hf hp => ?_⟩
  obtain rfl : r = .ok .next η := (Option.some.inj hf).symm
  exact hp σ as H Hs hR Ext.refl Kept.refl
theorem okB_cons {st : Stmt} {rest : List Stmt} {f g : FS} (h1 : OkS M X W kp st f) (h2 : OkB M X W kp rest g) : OkB M X W kp (st :: rest) (fSeq f g) := by
  obtain ⟨t, ht, hh⟩ := h1
  obtain ⟨u, hu, hhu⟩ := h2
  refine ⟨_, pss_cons ht hu, fun η σ as H Hs r D hR hf hp => ?_⟩
  rcases bindR_inv hf with ⟨w, η1, e1, e2⟩ | ⟨c, p, η1, e1, rfl⟩
  · refine hh η σ as H Hs _ _ hR e1 ?_
    cases w with
    | next => exact fun σ' as' H' Hs' r1 x1 k1 => hhu η1 σ' as' H' Hs' r D r1 e2 (hp.from x1 k1)
    | ret x =>
      obtain rfl : r = .ok (.ret x) η1 := (Option.some.inj e2).symm
      exact hp
    | brk =>
      obtain rfl : r = .ok .brk η1 := (Option.some.inj e2).symm
      exact hp
    | cont =>
      obtain rfl : r = .ok .cont η1 := (Option.some.inj e2).symm
      exact hp
  · exact hh η σ as H Hs _ _ hR e1 hp
theorem okB_one {st : Stmt} {f : FS} (h1 : OkS M X W kp st f) : OkB M X W kp [st] f := let ⟨t, ht, hh⟩ := h1; ⟨t, pss_one ht, hh⟩

/-! ### storing -/
section
variable {G : Gc}
/-- the value on top goes into a place -/
theorem Rep.store {x : Val} {v : V} {η : Env} {σ : L2.St} {as : List Addr} {H Hs : Hp} {i : Nat} (h : Rep G (some x :: η) (some v :: σ) as H Hs) (hi : i < η.length) : ∃ as', Rep G (η.set i (some x)) (σ.set i (some v)) as' H Hs ∧ ∀ a ∈ as', a ∈ as := by
  obtain ⟨w, σ', a1, a2, e, rfl, p, q⟩ := h.env
  obtain ⟨e1, rfl⟩ := List.cons.inj e
  obtain rfl : v = w := Option.some.inj e1
  obtain ⟨b1, b2, b3, rfl, r⟩ := q.store i (some x) (some v) a1 hi ⟨v, rfl, p⟩
  have hm : ∀ a ∈ b1 ++ (a1 ++ b3), a ∈ a1 ++ (b1 ++ (b2 ++ b3)) := fun a ha => by
    simp only [List.mem_append] at ha ⊢
    rcases ha with ha | ha | ha <;> simp [ha]
  have hn : (b1 ++ (a1 ++ b3)).Nodup := by
    have h1 : (a1 ++ (b1 ++ (b2 ++ b3))).Nodup := h.nd
    have h2 : (a1 ++ (b1 ++ b3)).Nodup := h1.sublist (List.Sublist.append (List.Sublist.refl _) (List.Sublist.append (List.Sublist.refl _) (List.sublist_append_right _ _)))
    have pp : (b1 ++ (a1 ++ b3)).Perm (a1 ++ (b1 ++ b3)) := List.perm_append_comm_assoc _ _ _
    exact pp.nodup_iff.mpr h2
  exact ⟨_, ⟨h.le, r, hn, fun a ha => h.off a (hm a ha)⟩, hm⟩
theorem Rep.storeAt {π : Env} {τ : L2.St} {x : Val} {v : V} {η : Env} {σ : L2.St} {as : List Addr} {H Hs : Hp} {i : Nat} (h : Rep G (some x :: (π ++ η)) (some v :: (τ ++ σ)) as H Hs) (hl : τ.length = π.length) (hi : i < η.length) :
    ∃ as', Rep G (π ++ η.set i (some x)) (τ ++ σ.set i (some v)) as' H Hs ∧ ∀ a ∈ as', a ∈ as := by
  obtain ⟨as', r, m⟩ := h.store (i := π.length + i) (by rw [List.length_append]; omega)
  rw [List.set_append_right _ _ (Nat.le_add_right _ _), Nat.add_sub_cancel_left] at r
  rw [← hl, List.set_append_right _ _ (Nat.le_add_right _ _), Nat.add_sub_cancel_left] at r
  exact ⟨as', r, m⟩
theorem Kept.set {σ : L2.St} {i : Nat} {s : Option V} (h : i ∉ kp) : Kept kp σ (σ.set i s) := fun j hj => by
  rw [List.getElem?_set_ne]
  rintro rfl
  exact h hj
end
/-- may a name be stored -/
def locOk (S : Sc) (x : Str) : Bool := match S.sc.names.lookup x with
  | some .local => true
  | some .cell => S.own x
  | _ => false
theorem loc_ok (ok : Cok M S k W X) {x : Str} (h : locOk S x = true) : Loc X.env.scope x ∧ (X.fn x = true ∨ X.env.scope.names.lookup x = some .local) := by
  unfold locOk at h
  rw [ok.sc]
  cases e : S.sc.names.lookup x with
  | none =>
    rw [e] at h
    cases h
  | some kd =>
    rw [e] at h
    cases kd with
    | «local» => exact ⟨.inl e, .inr rfl⟩
    | cell => exact ⟨.inr e, .inl (ok.own x h)⟩
    | _ => cases h
def fSet (i : Nat) (f : FO) : FS := fun η => bindR (f η) fun o η1 => match esc1 o η1 with
  | some (x, η2) => if i < η2.length then okR .next (η2.set i (some x)) else none
  | none => none
def noComp : Expr → Bool
  | .ListComp .. => false
  | .SetComp .. => false
  | .DictComp .. => false
  | _ => true
theorem swaps_no {e : Expr} {t : Option Expr} {l : Nat} {env : PySem.Env} (h : noComp e = true) : swapsWith e t l env = pure false := by
  cases e <;> first | rfl | cases h
theorem ok_set {i : Nat} {x : Str} {e : Expr} {f : FO} {pos' : Pos} (ok : Cok M S k W X) (hi : S.N[i]? = some x) (hx : locOk S x = true) (hk : i ∉ kp) (he : OkO M X W e f) (hs : swapsWith e (some (.Name x pos')) pos.line X.env = pure false) : OkS M X W kp (.Assign [.Name x pos'] e pos) (fSet i f) := by
  obtain ⟨t, ht, hh⟩ := he
  obtain ⟨l1, l2⟩ := loc_ok ok hx
  refine ⟨_, ps_set (i := i) (by rw [ok.N]; exact ok.nd) (by rw [ok.N]; exact hi) l1 ht hs l2, fun η σ as H Hs r D hR hf hp => ?_⟩
  rcases bindR_inv hf with ⟨o, η1, e1, e2⟩ | ⟨c, p, η1, e1, rfl⟩
  · refine hh η σ as H Hs _ _ hR e1 fun v as' H' Hs' r1 l1 x1 => ?_
    cases e3 : esc1 o η1 with
    | none =>
      rw [e3] at e2
      cases e2
    | some q =>
      obtain ⟨y, η2⟩ := q
      rw [e3] at e2
      simp only at e2
      by_cases hl : i < η2.length
      · rw [if_pos hl] at e2
        obtain rfl : r = .ok .next (η2.set i (some y)) := (Option.some.inj e2).symm
        obtain ⟨as2, Hs2, r2, x2⟩ := esc1_ok (π := []) (τ := []) r1 rfl l1 e3
        obtain ⟨as3, r3, m3⟩ := Rep.store (i := i) r2 hl
        exact hp _ as3 H' Hs2 r3 ((x1.trans x2).less m3) (Kept.set hk)
      · rw [if_neg hl] at e2
        cases e2
  · exact hh η σ as H Hs _ _ hR e1 (PostX.toS hp)
/-- a, b = x, y (two names of the frame) -/
def fPar (i j : Nat) (g : FL) : FS := fun η => bindR (g η) fun os η1 => match escAll os η1 with
  | some ([x, y], η2) => if i < η2.length ∧ j < η2.length then okR .next ((η2.set i (some x)).set j (some y)) else none
  | _ => none
theorem ok_par {i j : Nat} {x y : Str} {a b : Expr} {g : FL} {px py pt : Pos} {kt k2 : Nat} {pt2 : Pos} (ok : Cok M S k W X) (hi : S.N[i]? = some x) (hj : S.N[j]? = some y) (hij : i ≠ j) (hx : S.sc.names.lookup x = some .local) (hy : S.sc.names.lookup y = some .local)
    (ki : i ∉ kp) (kj : j ∉ kp) (ha : OkL M X W [a, b] g) (hw : swappedStores [.Tuple [.Name x px, .Name y py] kt pt] (.Tuple [a, b] k2 pt2) X.env = pure (some [x, y])) :
    OkS M X W kp (.Assign [.Tuple [.Name x px, .Name y py] kt pt] (.Tuple [a, b] k2 pt2) pos) (fPar i j g) := by
  obtain ⟨t, ht, hh⟩ := ha
  refine ⟨_, ps_par (i := i) (j := j) ok.calm (by rw [ok.N]; exact ok.nd) (by rw [ok.N]; exact hi) (by rw [ok.N]; exact hj) hij (by rw [ok.sc]; exact hx) (by rw [ok.sc]; exact hy) ht hw, fun η σ as H Hs r D hR hf hp => ?_⟩
  rcases bindR_inv hf with ⟨os, η1, e1, e2⟩ | ⟨c, p, η1, e1, rfl⟩
  · refine hh η σ as H Hs _ _ hR e1 fun vs as' H' Hs' r1 l1 x1 => ?_
    cases e3 : escAll os η1 with
    | none =>
      rw [e3] at e2
      cases e2
    | some q =>
      obtain ⟨xs, η2⟩ := q
      rw [e3] at e2
      obtain ⟨as2, Hs2, r2, x2⟩ := escAll_ok (π := []) (τ := []) r1 rfl l1 e3
      cases xs with
      | nil => cases e2
      | cons z1 xs =>
        cases xs with
        | nil => cases e2
        | cons z2 xs =>
          cases xs with
          | cons _ _ => cases e2
          | nil =>
            simp only at e2
            by_cases hl : i < η2.length ∧ j < η2.length
            · rw [if_pos hl] at e2
              obtain rfl : r = .ok .next ((η2.set i (some z1)).set j (some z2)) := (Option.some.inj e2).symm
              have r2' : Rep M.G (some z1 :: ([some z2] ++ η2)) (vs.map some ++ σ) as2 H' Hs2 := r2
              obtain ⟨w1, σ1, c1, c2, ew, _, _, q1⟩ := r2'.env
              obtain ⟨w2, σ2, c3, c4, ew2, _, _, q2⟩ := (show RepO M.G H' Hs2 (some z2 :: η2) σ1 c2 from q1)
              subst ew2
              have hvs : vs = [w1, w2] ∧ σ2 = σ := by
                have hl2 := q2.length
                have l0 := r1.env.length
                have l3 : η2.length = η1.length := by
                  have aux : ∀ os η xs η', escAll os η = some (xs, η') → η'.length = η.length := by
                    intro os
                    induction os with
                    | nil => intro η xs η' h; simp only [escAll, Option.some.injEq, Prod.mk.injEq] at h; rw [h.2]
                    | cons o os ih =>
                      intro η xs η' h
                      simp only [escAll] at h
                      cases q1 : esc1 o η with
                      | none => rw [q1] at h; cases h
                      | some z =>
                        obtain ⟨y', ηy⟩ := z
                        rw [q1] at h
                        simp only at h
                        have ly : ηy.length = η.length := by
                          cases o with
                          | pend y0 => simp only [esc1, Option.some.injEq, Prod.mk.injEq] at q1; rw [q1.2]
                          | slot i0 =>
                            simp only [esc1] at q1
                            cases e0 : η[i0]? with
                            | none => rw [e0] at q1; cases q1
                            | some u => cases u with
                              | none => rw [e0] at q1; cases q1
                              | some u => rw [e0] at q1; simp only [Option.some.injEq, Prod.mk.injEq] at q1; rw [← q1.2, List.length_set]
                        cases q2 : escAll os ηy with
                        | none => rw [q2] at h; cases h
                        | some z2 =>
                          obtain ⟨ys, ηz⟩ := z2
                          rw [q2] at h
                          simp only [Option.some.injEq, Prod.mk.injEq] at h
                          rw [← h.2, ih _ _ _ q2, ly]
                  exact aux _ _ _ _ e3
                have lv := l1.length
                simp only [List.length_append, List.length_map] at l0
                have hlv : (vs.map some).length = ([some w1, some w2] : L2.St).length := by
                  have := congrArg List.length ew
                  simp only [List.length_append, List.length_cons, List.length_map] at this ⊢
                  simp only [List.length_nil]
                  omega
                obtain ⟨h1, h2⟩ := List.append_inj (show vs.map some ++ σ = [some w1, some w2] ++ σ2 from ew) hlv
                refine ⟨?_, h2.symm⟩
                cases vs with
                | nil => cases h1
                | cons a vs =>
                  cases vs with
                  | nil => cases h1
                  | cons b vs =>
                    cases vs with
                    | nil =>
                      simp only [List.map_cons, List.map_nil, List.cons.injEq, Option.some.injEq, and_true] at h1
                      rw [h1.1, h1.2]
                    | cons _ _ => simp at h1
              obtain ⟨rfl, rfl⟩ := hvs
              obtain ⟨as3, r3, m3⟩ := Rep.storeAt (π := [some z2]) (τ := [some w2]) (i := i) r2' rfl hl.1
              obtain ⟨as4, r4, m4⟩ := Rep.store (i := j) (x := z2) (v := w2) (show Rep M.G (some z2 :: η2.set i (some z1)) (some w2 :: σ2.set i (some w1)) as3 H' Hs2 from r3) (by rw [List.length_set]; exact hl.2)
              refine ⟨w1, w2, rfl, ?_⟩
              exact hp _ as4 H' Hs2 r4 ((x1.trans x2).less fun a ha => m3 a (m4 a ha)) ((Kept.set ki).trans (Kept.set kj))
            · rw [if_neg hl] at e2
              cases e2
  · exact hh η σ as H Hs _ _ hR e1 (PostX.toS hp)

/-! ### if, return, an expression alone -/
def fIf (c : FT) (f g : FS) : FS := fun η => bindR (c η) fun b η1 => if b then f η1 else g η1
theorem ok_if {c : Expr} {a b : List Stmt} {fc : FT} {fa fb : FS} (hc : OkT M X W c fc) (ha : OkB M X W kp a fa) (hb : OkB M X W kp b fb) : OkS M X W kp (.If c a b pos) (fIf fc fa fb) := by
  obtain ⟨tc, htc, hhc⟩ := hc
  obtain ⟨ta, hta, hha⟩ := ha
  obtain ⟨tb, htb, hhb⟩ := hb
  refine ⟨_, ps_if htc hta htb, fun η σ as H Hs res D hR hf hp => ?_⟩
  rcases bindR_inv hf with ⟨t, η1, e1, e2⟩ | ⟨c, p, η1, e1, rfl⟩
  · refine hhc η σ as H Hs _ _ hR e1 fun as' H' Hs' r1 x1 => ?_
    cases t with
    | true => exact hha η1 σ as' H' Hs' res D r1 e2 (hp.from x1 Kept.refl)
    | false => exact hhb η1 σ as' H' Hs' res D r1 e2 (hp.from x1 Kept.refl)
  · exact hhc η σ as H Hs _ _ hR e1 (PostX.toS hp)
def fRet (f : FO) : FS := fun η => bindR (f η) fun o η1 => match esc1 o η1 with
  | some (x, η2) => okR (.ret x) η2
  | none => none
theorem ok_ret {e : Expr} {f : FO} (he : OkO M X W e f) : OkS M X W kp (.Return (some e) pos) (fRet f) := by
  obtain ⟨t, ht, hh⟩ := he
  refine ⟨_, ps_ret ht, fun η σ as H Hs r D hR hf hp => ?_⟩
  rcases bindR_inv hf with ⟨o, η1, e1, e2⟩ | ⟨c, p, η1, e1, rfl⟩
  · refine hh η σ as H Hs _ _ hR e1 fun v as' H' Hs' r1 l1 x1 => ?_
    cases e3 : esc1 o η1 with
    | none =>
      rw [e3] at e2
      cases e2
    | some q =>
      obtain ⟨y, η2⟩ := q
      rw [e3] at e2
      obtain rfl : r = .ok (.ret y) η2 := (Option.some.inj e2).symm
      obtain ⟨as2, Hs2, r2, x2⟩ := esc1_ok (π := []) (τ := []) r1 rfl l1 e3
      exact hp v σ as2 H' Hs2 r2 (x1.trans x2) Kept.refl
  · exact hh η σ as H Hs _ _ hR e1 (PostX.toS hp)
def fRetN : FS := fun η => okR (.ret (.sh .non)) η
theorem ok_retN : OkS M X W kp (.Return none pos) fRetN := by
  refine ⟨_, ps_retN, fun η σ as H Hs r D hR hf hp => ?_⟩
  obtain rfl : r = .ok (.ret (.sh .non)) η := (Option.some.inj hf).symm
  exact hp .non σ as H Hs (hR.push_sh (by simp only [RepD])) Ext.refl Kept.refl
def fExpr (f : FO) : FS := fun η => bindR (f η) fun _ η1 => okR .next η1
theorem ok_expr {e : Expr} {f : FO} (he : OkO M X W e f) (hs : noComp e = true) : OkS M X W kp (.Expr e pos) (fExpr f) := by
  obtain ⟨t, ht, hh⟩ := he
  refine ⟨_, ps_expr ht (swaps_no hs), fun η σ as H Hs r D hR hf hp => ?_⟩
  rcases bindR_inv hf with ⟨o, η1, e1, e2⟩ | ⟨c, p, η1, e1, rfl⟩
  · refine hh η σ as H Hs _ _ hR e1 fun v as' H' Hs' r1 l1 x1 => ?_
    obtain rfl : r = .ok .next η1 := (Option.some.inj e2).symm
    obtain ⟨as2, r2, m2⟩ := r1.pop
    exact hp σ as2 H' Hs' r2 (x1.less m2) Kept.refl
  · exact hh η σ as H Hs _ _ hR e1 (PostX.toS hp)
def fNever : FS := fun _ => none
theorem ok_never {st : Stmt} : OkS M X W kp st fNever := ⟨_, ps_never, fun _ _ _ _ _ _ _ _ hf => nomatch hf⟩
def fFlw (w : Flw) : FS := fun η => okR w η
theorem ok_pass : OkS M X W kp (.Pass pos) fNext := by
  refine ⟨_, ps_pass, fun η σ as H Hs r D hR hf hp => ?_⟩
  obtain rfl : r = .ok .next η := (Option.some.inj hf).symm
  exact hp σ as H Hs hR Ext.refl Kept.refl
theorem ok_break : OkS M X W kp (.Break pos) (fFlw .brk) := by
  refine ⟨_, ps_break, fun η σ as H Hs r D hR hf hp => ?_⟩
  obtain rfl : r = .ok .brk η := (Option.some.inj hf).symm
  exact hp σ as H Hs hR Ext.refl Kept.refl
theorem ok_continue : OkS M X W kp (.Continue pos) (fFlw .cont) := by
  refine ⟨_, ps_continue, fun η σ as H Hs r D hR hf hp => ?_⟩
  obtain rfl : r = .ok .cont η := (Option.some.inj hf).symm
  exact hp σ as H Hs hR Ext.refl Kept.refl

/-! ### targets -/
/-- a target of a loop, of an assignment: the value, the places -/
abbrev FG := Val → Env → Option Env
def OkG (M : Md) (X : Cx) (kp : List Nat) (tg : Expr) (f : FG) : Prop :=
  ∃ g, PG X tg g ∧ ∀ (π : Env) (τ : L2.St) η σ as H Hs y x η1 (Q : L2.St → Hp → Prop), Rep M.G (some y :: (π ++ η)) (some x :: (τ ++ σ)) as H Hs → τ.length = π.length → f y η = some η1 →
    (∀ σ1 as1, Rep M.G (π ++ η1) (τ ++ σ1) as1 H Hs → (∀ a ∈ as1, a ∈ as) → Kept kp σ σ1 → Q σ1 H) → g x σ H Q
def OkGs (M : Md) (X : Cx) (kp : List Nat) (ts : List Expr) (f : List Val → Env → Option Env) : Prop :=
  ∃ g, PGs X ts g ∧ ∀ (π : Env) (τ : L2.St) η σ as H Hs (ys : List Val) (xs : List V) η1 (Q : L2.St → Hp → Prop), Rep M.G (ys.map some ++ (π ++ η)) (xs.map some ++ (τ ++ σ)) as H Hs → xs.length = ys.length → τ.length = π.length → f ys η = some η1 →
    (∀ σ1 as1, Rep M.G (π ++ η1) (τ ++ σ1) as1 H Hs → (∀ a ∈ as1, a ∈ as) → Kept kp σ σ1 → Q σ1 H) → g xs σ H Q
def gNm (i : Nat) : FG := fun y η => if i < η.length then some (η.set i (some y)) else none
theorem okG_name {i : Nat} {x : Str} (ok : Cok M S k W X) (hi : S.N[i]? = some x) (hx : locOk S x = true) (hk : i ∉ kp) : OkG M X kp (.Name x pos) (gNm i) := by
  obtain ⟨l1, l2⟩ := loc_ok ok hx
  refine ⟨_, pg_name (i := i) (by rw [ok.N]; exact ok.nd) (by rw [ok.N]; exact hi) l1 l2, fun π τ η σ as H Hs y v η1 Q hR hl hf hq => ?_⟩
  unfold gNm at hf
  by_cases h : i < η.length
  · rw [if_pos h] at hf
    obtain rfl := Option.some.inj hf
    obtain ⟨as1, r1, m1⟩ := hR.storeAt hl h
    exact hq _ as1 r1 m1 (Kept.set hk)
  · rw [if_neg h] at hf
    cases hf
def gsNil : List Val → Env → Option Env
  | [], η => some η
  | _, _ => none
def gsCons (f : FG) (g : List Val → Env → Option Env) : List Val → Env → Option Env
  | y :: ys, η => (f y η).bind (g ys)
  | _, _ => none
theorem okGs_nil : OkGs M X kp [] gsNil := by
  refine ⟨_, pgs_nil, fun π τ η σ as H Hs ys xs η1 Q hR hx hl hf hq => ?_⟩
  cases ys with
  | cons _ _ => cases hf
  | nil =>
    cases xs with
    | cons _ _ => cases hx
    | nil =>
      obtain rfl := Option.some.inj hf
      exact ⟨rfl, hq σ as hR (fun _ h => h) Kept.refl⟩
theorem okGs_cons {e : Expr} {es : List Expr} {f : FG} {g : List Val → Env → Option Env} (h1 : OkG M X kp e f) (h2 : OkGs M X kp es g) (hs : noStar e = true) : OkGs M X kp (e :: es) (gsCons f g) := by
  obtain ⟨t, ht, hh⟩ := h1
  obtain ⟨u, hu, hhu⟩ := h2
  refine ⟨_, pgs_cons ht hu (by cases e <;> first | rfl | cases hs), fun π τ η σ as H Hs ys xs η1 Q hR hx hl hf hq => ?_⟩
  cases ys with
  | nil => cases hf
  | cons y ys =>
    cases xs with
    | nil => cases hx
    | cons x xs =>
      simp only [gsCons, Option.bind_eq_some_iff] at hf
      obtain ⟨η2, e1, e2⟩ := hf
      refine ⟨x, xs, rfl, ?_⟩
      have hx' : xs.length = ys.length := by simpa using hx
      have hR' : Rep M.G (some y :: ((ys.map some ++ π) ++ η)) (some x :: ((xs.map some ++ τ) ++ σ)) as H Hs := by simpa using hR
      refine hh (ys.map some ++ π) (xs.map some ++ τ) η σ as H Hs y x η2 _ hR' (by simp [hx', hl]) e1 fun σ1 as1 r1 m1 k1 => ?_
      refine hhu π τ η2 σ1 as1 H Hs ys xs η1 Q (by simpa using r1) hx' hl e2 fun σ2 as2 r2 m2 k2 => ?_
      exact hq σ2 as2 r2 (fun a ha => m1 a (m2 a ha)) (k1.trans k2)
/-- the items of a tuple -/
def itemsT : Val → Option (List Val)
  | .sh (.tup ds) => some (ds.map .sh)
  | .ot xs => some xs
  | _ => none
theorem Rep.items {G : Gc} {y : Val} {x : V} {η : Env} {σ : L2.St} {as : List Addr} {H Hs : Hp} {ys : List Val} (h : Rep G (some y :: η) (some x :: σ) as H Hs) (e : itemsT y = some ys) :
    ∃ a vs as', x = .ref a ∧ SqT G.K H a vs ∧ vs.length = ys.length ∧ Rep G (ys.map some ++ η) (vs.map some ++ σ) as' H Hs ∧ (∀ b ∈ as', b ∈ as) := by
  obtain ⟨w, σ', a1, a2, e1, rfl, p, q⟩ := h.env
  obtain ⟨e2, rfl⟩ := List.cons.inj e1
  obtain rfl : x = w := Option.some.inj e2
  cases y with
  | sh d =>
    cases d with
    | tup ds =>
      obtain rfl := Option.some.inj e
      obtain ⟨rfl, rd⟩ := RepV.sh_iff.mp p
      simp only [RepD] at rd
      obtain ⟨a, vs, rfl, sq, rds⟩ := rd
      have rs := RepVs.shs (H := H) rds
      refine ⟨a, vs, a2, rfl, SqT.le sq h.le, by rw [List.length_map, rds.length], ⟨h.le, ?_, h.nd, h.off⟩, fun b hb => hb⟩
      exact rs.slots.join q
    | _ => cases e
  | ot xs =>
    obtain rfl := Option.some.inj e
    simp only [RepV] at p
    obtain ⟨a, vs, bs, rfl, rfl, ha, rv⟩ := p
    refine ⟨a, vs, bs ++ a2, rfl, SqT.of ha, rv.length.symm, ⟨h.le, rv.slots.join q, (List.nodup_cons.mp h.nd).2, fun b hb => h.off b (List.mem_cons_of_mem _ hb)⟩, fun b hb => List.mem_cons_of_mem _ hb⟩
  | _ => cases e
def gTp (g : List Val → Env → Option Env) : FG := fun y η => (itemsT y).bind fun ys => g ys η
theorem each_len {env : PySem.Env} : ∀ {es : List Expr}, (assignEach es env).length = es.length
  | [] => rfl
  | e :: es => by cases e <;> exact congrArg Nat.succ each_len
theorem each_star {env : PySem.Env} : ∀ {es : List Expr}, es.all noStar = true → (assignEach es env).findIdx? (·.1) = none
  | [], _ => rfl
  | e :: es, h => by
    rw [List.all_cons, Bool.and_eq_true] at h
    have ih := each_star (env := env) h.2
    have e1 : assignEach (e :: es) env = (false, assign e env) :: assignEach es env := by cases e <;> first | rfl | cases h.1
    rw [e1, List.findIdx?_cons]
    simp [ih]
theorem okG_tup {es : List Expr} {g : List Val → Env → Option Env} {j : Nat} (ok : Cok M S k W X) (h : OkGs M X kp es g) (hs : es.all noStar = true) (hg : ∀ ys η η1, g ys η = some η1 → ys.length = es.length) : OkG M X kp (.Tuple es j pos) (gTp g) := by
  obtain ⟨P, w, K, mg, base, C⟩ := M
  have emd := ok.md
  simp only [mdOf, Md.mk.injEq, and_true] at emd
  obtain ⟨rfl, rfl, rfl, rfl, rfl⟩ := emd
  obtain ⟨t, ht, hh⟩ := h
  refine ⟨_, pg_tup (n := es.length) ok.calm ht each_len (each_star hs), fun π τ η σ as H Hs y x η1 Q hR hl hf hq => ?_⟩
  simp only [gTp, Option.bind_eq_some_iff] at hf
  obtain ⟨ys, e1, e2⟩ := hf
  obtain ⟨a, vs, as', rfl, sq, hl2, r1, m1⟩ := hR.items e1
  refine ⟨a, vs, rfl, sq, by rw [hl2]; exact hg ys η η1 e2, ?_⟩
  exact hh π τ η σ as' H Hs ys vs η1 Q r1 hl2 hl e2 fun σ1 as1 r2 m2 k2 => hq σ1 as1 r2 (fun b hb => m1 b (m2 b hb)) k2
def fAsg (g : FG) (f : FO) : FS := fun η => bindR (f η) fun o η1 => match esc1 o η1 with
  | some (x, η2) => (match g x η2 with
    | some η3 => okR .next η3
    | none => none)
  | none => none
theorem ok_asg {tg e : Expr} {g : FG} {f : FO} (he : OkO M X W e f) (hg : OkG M X kp tg g) (hs : swapsWithSole [tg] e pos.line X.env = pure false) (hw : swappedStores [tg] e X.env = pure none) (hst : noStar tg = true) : OkS M X W kp (.Assign [tg] e pos) (fAsg g f) := by
  obtain ⟨t, ht, hh⟩ := he
  obtain ⟨u, hu, hhu⟩ := hg
  refine ⟨_, ps_asg ht hu hs hw (by cases tg <;> first | rfl | cases hst), fun η σ as H Hs r D hR hf hp => ?_⟩
  rcases bindR_inv hf with ⟨o, η1, e1, e2⟩ | ⟨c, p, η1, e1, rfl⟩
  · refine hh η σ as H Hs _ _ hR e1 fun v as' H' Hs' r1 l1 x1 => ?_
    cases e3 : esc1 o η1 with
    | none =>
      rw [e3] at e2
      cases e2
    | some q =>
      obtain ⟨y, η2⟩ := q
      rw [e3] at e2
      simp only at e2
      cases e4 : g y η2 with
      | none =>
        rw [e4] at e2
        cases e2
      | some η3 =>
        rw [e4] at e2
        obtain rfl : r = .ok .next η3 := (Option.some.inj e2).symm
        obtain ⟨as2, Hs2, r2, x2⟩ := esc1_ok (π := []) (τ := []) r1 rfl l1 e3
        refine hhu [] [] η2 σ as2 H' Hs2 y v η3 _ r2 rfl e4 fun σ1 as1 r3 m3 k3 => ?_
        exact hp σ1 as1 H' Hs2 r3 ((x1.trans x2).less m3) k3
  · exact hh η σ as H Hs _ _ hR e1 (PostX.toS hp)
end
end Wp
end
section
set_option Elab.async false
set_option linter.all false
set_option maxRecDepth 100000
/-! WpH: what is walked; for. -/
namespace Wp
open PySem PySem.Spec PyProof.Rows L2

section
variable {M : Md} {S : Sc} {k : Nat} {W : WX} {X : Cx} {kp : List Nat} {pos : Pos}
/-- a block with values pending -/
def PostB (G : Gc) (W : WX) (kp : List Nat) (π : Env) (τ : L2.St) (σ : L2.St) (as : List Addr) (H Hs : Hp) (D : Ends) : Res Flw → Prop
  | .ok .next η' => ∀ σ' as' H' Hs', Rep G (π ++ η') (τ ++ σ') as' H' Hs' → Ext as H Hs as' H' Hs' → Kept kp σ σ' → D.nx σ' H'
  | .ok .brk η' => ∀ σ' as' H' Hs', Rep G (π ++ η') (τ ++ σ') as' H' Hs' → Ext as H Hs as' H' Hs' → Kept kp σ σ' → D.bk σ' H'
  | .ok .cont η' => ∀ σ' as' H' Hs', Rep G (π ++ η') (τ ++ σ') as' H' Hs' → Ext as H Hs as' H' Hs' → Kept kp σ σ' → D.ct σ' H'
  | .ok (.ret x) η' => ∀ v σ' as' H' Hs', Rep G (some x :: η') (some v :: σ') as' H' Hs' → Ext as H Hs as' H' Hs' → Kept kp σ σ' → D.rt v H'
  | .exc c p η' => ∀ u dx σ' as' H' Hs', Rep G (p :: η') (u :: σ') as' H' Hs' → XRep H' p u dx → Ext as H Hs as' H' Hs' → Kept kp σ σ' → W (.ref (G.C c)) dx σ' H'
theorem OkB.framed {st : List Stmt} {f : FS} (h : OkB M X W kp st f) : ∃ t, PSs X st t ∧ ∀ π τ η σ as H Hs r D, Rep M.G (π ++ η) (τ ++ σ) as H Hs → τ.length = π.length → f η = some r → PostB M.G W kp π τ σ as H Hs D r → t D σ H := by
  obtain ⟨t, ht, hh⟩ := h
  refine ⟨t, ht, fun π τ η σ as H Hs r D hR hl hf hp => ?_⟩
  obtain ⟨a1, a2, rfl, p, q⟩ := hR.sub hl
  have off : ∀ a ∈ a1, Hs a = none := fun a ha => hR.off a (by simp [ha])
  refine hh η σ a2 H Hs r D q hf ?_
  cases r with
  | ok w η' =>
    cases w with
    | ret x => exact fun v σ' as' H' Hs' r1 x1 k1 => hp v σ' as' H' Hs' r1 (x1.more a1) k1
    | next =>
      intro σ' as' H' Hs' r1 x1 k1
      obtain ⟨r2, x2⟩ := Rep.frame p hR.nd off r1 x1
      exact hp σ' _ H' Hs' r2 x2 k1
    | brk =>
      intro σ' as' H' Hs' r1 x1 k1
      obtain ⟨r2, x2⟩ := Rep.frame p hR.nd off r1 x1
      exact hp σ' _ H' Hs' r2 x2 k1
    | cont =>
      intro σ' as' H' Hs' r1 x1 k1
      obtain ⟨r2, x2⟩ := Rep.frame p hR.nd off r1 x1
      exact hp σ' _ H' Hs' r2 x2 k1
  | exc c pp η' => exact fun u dx σ' as' H' Hs' r1 hX x1 k1 => hp u dx σ' as' H' Hs' r1 hX (x1.more a1) k1

/-! ### what is walked -/
structure ItOk (G : Gc) (J : It) (π : Env) (τ : L2.St) (ys : List Val) (C : List Addr → Hp → Hp → Prop) : Prop where
  lp : π.length = ys.length
  lt : τ.length = ys.length
  stable : ∀ as H Hs as' H' Hs', C as H Hs → Ext as H Hs as' H' Hs' → C as' H' Hs'
  go : ∀ i as H Hs, Le Hs H → C as H Hs → i < ys.length → J.go i H
  stop : ∀ as H Hs, Le Hs H → C as H Hs → J.stop ys.length H
  yld : ∀ i as H Hs x H2 y, Le Hs H → C as H Hs → ys[i]? = some y → J.yld i H x H2 →
    (π[i]? = some (some y) ∧ τ[i]? = some (some x) ∧ H2 = H) ∨ (π[i]? = some none ∧ Sub H H2 ∧ ∃ b, RepV G H2 Hs y x b ∧ b.Nodup ∧ ∀ a ∈ b, H a = none)
abbrev FI := Env → RO (List Val)
def PostI (G : Gc) (W : WX) (σ : L2.St) (as : List Addr) (H Hs : Hp) (R : It → Hp → Prop) : Res (List Val) → Prop
  | .ok ys η' => ∀ J π τ C as' H' Hs', ItOk G J π τ ys C → C as' H' Hs' → Rep G (π ++ η') (τ ++ σ) as' H' Hs' → Ext as H Hs as' H' Hs' → R J H'
  | .exc c p η' => PostX G W σ as H Hs c p η'
def OkI (M : Md) (X : Cx) (W : WX) (tg iter : Expr) (f : FI) : Prop :=
  ∃ t, PI X tg iter t ∧ ∀ η σ as H Hs r R, Rep M.G η σ as H Hs → f η = some r → PostI M.G W σ as H Hs R r → t σ H R
/-- the next item, on top -/
theorem ItOk.next {G : Gc} {J : It} {π : Env} {τ : L2.St} {ys : List Val} {C : List Addr → Hp → Hp → Prop} (it : ItOk G J π τ ys C) {i : Nat} (hi : i < ys.length) {η : Env} {σ : L2.St} {as : List Addr} {H Hs : Hp} {x : V} {H2 : Hp}
    (r : Rep G (π.drop i ++ η) (τ.drop i ++ σ) as H Hs) (c : C as H Hs) (hy : J.yld i H x H2) :
    ∃ as', Rep G (some ys[i] :: (π.drop (i + 1) ++ η)) (some x :: (τ.drop (i + 1) ++ σ)) as' H2 Hs ∧ Ext as H Hs as' H2 Hs := by
  have hp : i < π.length := by rw [it.lp]; exact hi
  have ht : i < τ.length := by rw [it.lt]; exact hi
  rw [List.drop_eq_getElem_cons hp, List.drop_eq_getElem_cons ht] at r
  rcases it.yld i as H Hs x H2 ys[i] r.le c (by simp [hi]) hy with ⟨h1, h2, rfl⟩ | ⟨h1, sb, b, rv, nd, new⟩
  · have e1 : π[i] = some ys[i] := by simpa [hp] using h1
    have e2 : τ[i] = some x := by simpa [ht] using h2
    rw [e1, e2] at r
    exact ⟨as, r, Ext.refl⟩
  · have e1 : π[i] = none := by simpa [hp] using h1
    rw [e1] at r
    obtain ⟨as1, r1, m1⟩ := Rep.pop (η := π.drop (i + 1) ++ η) (σ := τ.drop (i + 1) ++ σ) r
    obtain ⟨r2, x2⟩ := r1.push sb rv nd new
    exact ⟨_, r2, (Ext.refl.less m1).trans x2⟩

/-! ### for -/
def bindL (r : RO Flw) (kk : FS) : RO Flw := match r with
  | some (.ok .next η) => kk η
  | some (.ok .cont η) => kk η
  | some (.ok .brk η) => okR .next η
  | some (.ok (.ret x) η) => some (.ok (.ret x) η)
  | some (.exc c p η) => some (.exc c p η)
  | none => none
def loopF (g : FG) (body : FS) : List Val → FS
  | [], η => okR .next η
  | y :: ys, η => match g y η with
    | some η1 => bindL (body η1) (loopF g body ys)
    | none => none
def fFor (g : FG) (body : FS) (f : FI) : FS := fun η => bindR (f η) fun ys η1 => loopF g body ys η1
def noSet : Expr → Bool
  | .Set .. => false
  | _ => true
theorem set_no {e : Expr} {env : PySem.Env} (h : noSet e = true) : ∀ x, foldedSetIterable e env x = pure x := by
  cases e <;> first | (intro _; rfl) | cases h
theorem ok_for {tg iter : Expr} {body : List Stmt} {g : FG} {fb : FS} {f : FI} (ok : Cok M S k W X) (hi : OkI M X W tg iter f) (hg : OkG M X kp tg g) (hb : OkB M X W kp body fb) (hs : noSet iter = true) : OkS M X W kp (.For tg iter body [] pos) (fFor g fb f) := by
  obtain ⟨wi, hwi, hwh⟩ := hi
  obtain ⟨gg, hgg, hgh⟩ := hg
  obtain ⟨tb, htb, hbh⟩ := hb.framed
  refine ⟨_, ps_for ok.po ok.calm hwi hgg htb (set_no hs), fun η σ as H Hs r D hR hf hp => ?_⟩
  rcases bindR_inv hf with ⟨ys, η1, e1, e2⟩ | ⟨c, p, η1, e1, rfl⟩
  · refine hwh η σ as H Hs _ _ hR e1 fun J π τ C as1 H1 Hs1 it c1 r1 x1 => ?_
    refine ⟨fun i m σ2 H2 => m = ys.length - i ∧ i ≤ ys.length ∧ ∃ η2 as2 Hs2, Rep M.G (π.drop i ++ η2) (τ.drop i ++ σ2) as2 H2 Hs2 ∧ C as2 H2 Hs2 ∧ loopF g fb (ys.drop i) η2 = some r ∧ Ext as H Hs as2 H2 Hs2 ∧ Kept kp σ σ2,
      ⟨ys.length, by simp, Nat.zero_le _, η1, as1, Hs1, r1, c1, e2, x1, Kept.refl⟩, ?_⟩
    rintro i m σ2 H2 ⟨rfl, hi, η2, as2, Hs2, r2, c2, e3, x2, k2⟩
    by_cases hlt : i < ys.length
    · refine .inr ⟨it.go i as2 H2 Hs2 r2.le c2 hlt, fun σ' H' => ∃ η' as' Hs', Rep M.G (π.drop (i + 1) ++ η') (τ.drop (i + 1) ++ σ') as' H' Hs' ∧ C as' H' Hs' ∧ loopF g fb (ys.drop (i + 1)) η' = some r ∧ Ext as H Hs as' H' Hs' ∧ Kept kp σ σ',
        fun σ' H' n => ⟨ys.length - (i + 1), by omega, rfl, hlt, n⟩, fun x H3 hy => ?_⟩
      rw [List.drop_eq_getElem_cons hlt] at e3
      simp only [loopF] at e3
      cases eg : g ys[i] η2 with
      | none =>
        rw [eg] at e3
        cases e3
      | some η3 =>
        rw [eg] at e3
        simp only at e3
        obtain ⟨as3, r3, x3⟩ := it.next hlt r2 c2 hy
        have hl : (τ.drop (i + 1)).length = (π.drop (i + 1)).length := by rw [List.length_drop, List.length_drop, it.lp, it.lt]
        refine hgh (π.drop (i + 1)) (τ.drop (i + 1)) η2 σ2 as3 H3 Hs2 ys[i] x η3 _ r3 hl eg fun σ4 as4 r4 m4 k4 => ?_
        cases eb : fb η3 with
        | none =>
          rw [eb] at e3
          cases e3
        | some rb =>
          rw [eb] at e3
          have x4 : Ext as2 H2 Hs2 as4 H3 Hs2 := x3.less m4
          refine hbh (π.drop (i + 1)) (τ.drop (i + 1)) η3 σ4 as4 H3 Hs2 rb _ r4 hl eb ?_
          cases rb with
          | ok w η5 =>
            cases w with
            | next => exact fun σ' as' H' Hs' r' x' k' => ⟨η5, as', Hs', r', it.stable _ _ _ _ _ _ c2 (x4.trans x'), e3, x2.trans (x4.trans x'), k2.trans (k4.trans k')⟩
            | cont => exact fun σ' as' H' Hs' r' x' k' => ⟨η5, as', Hs', r', it.stable _ _ _ _ _ _ c2 (x4.trans x'), e3, x2.trans (x4.trans x'), k2.trans (k4.trans k')⟩
            | brk =>
              obtain rfl : r = .ok .next η5 := (Option.some.inj e3).symm
              intro σ' as' H' Hs' r' x' k'
              obtain ⟨a1, a2, rfl, _, q⟩ := r'.sub hl
              exact hp σ' a2 H' Hs' q ((x2.trans (x4.trans x')).less fun a ha => by simp [ha]) (k2.trans (k4.trans k'))
            | ret x =>
              obtain rfl : r = .ok (.ret x) η5 := (Option.some.inj e3).symm
              exact fun v σ' as' H' Hs' r' x' k' => hp v σ' as' H' Hs' r' (x2.trans (x4.trans x')) (k2.trans (k4.trans k'))
          | exc c p η5 =>
            obtain rfl : r = .exc c p η5 := (Option.some.inj e3).symm
            exact fun u dx σ' as' H' Hs' r' hX x' k' => hp u dx σ' as' H' Hs' r' hX (x2.trans (x4.trans x')) (k2.trans (k4.trans k'))
    · have e : i = ys.length := by omega
      subst e
      rw [List.drop_length] at e3
      obtain rfl : r = .ok .next η2 := (Option.some.inj e3).symm
      refine .inl ⟨it.stop as2 H2 Hs2 r2.le c2, ?_⟩
      rw [← it.lp, List.drop_length, it.lp, ← it.lt, List.drop_length] at r2
      exact hp σ2 as2 H2 Hs2 r2 x2 k2
  · exact hwh η σ as H Hs _ _ hR e1 (PostX.toS hp)

/-! ### lists and tuples walked -/
def itemsL : Val → Option (List Val)
  | .sh (.lst ds) => some (ds.map .sh)
  | .ol xs => some xs
  | _ => none
/-- a list at a: shared, or laid aside -/
def CL (K : PySem.W.Frag) (a : Addr) (vs : List V) : List Addr → Hp → Hp → Prop := fun as H Hs => SqL K Hs a vs ∨ (H a = some (.lst vs) ∧ a ∉ as)
def CT (K : PySem.W.Frag) (a : Addr) (vs : List V) : List Addr → Hp → Hp → Prop := fun as H Hs => SqT K Hs a vs ∨ (H a = some (.tup vs) ∧ a ∉ as)
theorem CL.stable {K : PySem.W.Frag} {a : Addr} {vs : List V} {as as' : List Addr} {H Hs H' Hs' : Hp} (c : CL K a vs as H Hs) (x : Ext as H Hs as' H' Hs') : CL K a vs as' H' Hs' := by
  rcases c with c | ⟨c, n⟩
  · exact .inl (SqL.le c x.grow.le)
  · refine .inr ⟨x.keep a _ c n, fun z => ?_⟩
    rcases x.anew a z with z | z
    · exact n z
    · rw [c] at z
      cases z
theorem CT.stable {K : PySem.W.Frag} {a : Addr} {vs : List V} {as as' : List Addr} {H Hs H' Hs' : Hp} (c : CT K a vs as H Hs) (x : Ext as H Hs as' H' Hs') : CT K a vs as' H' Hs' := by
  rcases c with c | ⟨c, n⟩
  · exact .inl (SqT.le c x.grow.le)
  · refine .inr ⟨x.keep a _ c n, fun z => ?_⟩
    rcases x.anew a z with z | z
    · exact n z
    · rw [c] at z
      cases z
theorem CL.sq {K : PySem.W.Frag} {a : Addr} {vs : List V} {as : List Addr} {H Hs : Hp} (c : CL K a vs as H Hs) (s : Le Hs H) : SqL K H a vs := by
  rcases c with c | ⟨c, n⟩
  · exact SqL.le c s
  · exact SqL.of c
theorem CT.sq {K : PySem.W.Frag} {a : Addr} {vs : List V} {as : List Addr} {H Hs : Hp} (c : CT K a vs as H Hs) (s : Le Hs H) : SqT K H a vs := by
  rcases c with c | ⟨c, n⟩
  · exact SqT.le c s
  · exact SqT.of c
theorem it_list {G : Gc} {a : Addr} {vs : List V} {ys : List Val} (hl : vs.length = ys.length) : ItOk G (Itl G.K a) (ys.map some) (vs.map some) ys (CL G.K a vs) where
  lp := List.length_map _
  lt := by rw [List.length_map, hl]
  stable := fun _ _ _ _ _ _ c x => c.stable x
  go := fun i as H Hs s c hi => ⟨vs, vs[i]'(by omega), c.sq s, by rw [List.getElem?_eq_getElem]⟩
  stop := fun as H Hs s c => ⟨vs, c.sq s, by omega⟩
  yld := fun i as H Hs x H2 y s c ey hy => by
    obtain ⟨rfl, hx⟩ := hy
    refine .inl ⟨by rw [List.getElem?_map, ey]; rfl, by rw [List.getElem?_map, hx vs (c.sq s)]; rfl, rfl⟩
theorem it_tup {G : Gc} {a : Addr} {vs : List V} {ys : List Val} (hl : vs.length = ys.length) : ItOk G (Itt G.K a) (ys.map some) (vs.map some) ys (CT G.K a vs) where
  lp := List.length_map _
  lt := by rw [List.length_map, hl]
  stable := fun _ _ _ _ _ _ c x => c.stable x
  go := fun i as H Hs s c hi => ⟨vs, vs[i]'(by omega), c.sq s, by rw [List.getElem?_eq_getElem]⟩
  stop := fun as H Hs s c => ⟨vs, c.sq s, by omega⟩
  yld := fun i as H Hs x H2 y s c ey hy => by
    obtain ⟨rfl, hx⟩ := hy
    refine .inl ⟨by rw [List.getElem?_map, ey]; rfl, by rw [List.getElem?_map, hx vs (c.sq s)]; rfl, rfl⟩
theorem Rep.itemsL {G : Gc} {y : Val} {x : V} {η : Env} {σ : L2.St} {as : List Addr} {H Hs : Hp} {ys : List Val} (h : Rep G (some y :: η) (some x :: σ) as H Hs) (e : Wp.itemsL y = some ys) :
    ∃ a vs as', x = .ref a ∧ CL G.K a vs as' H Hs ∧ vs.length = ys.length ∧ Rep G (ys.map some ++ η) (vs.map some ++ σ) as' H Hs ∧ (∀ b ∈ as', b ∈ as) := by
  obtain ⟨w, σ', a1, a2, e1, rfl, p, q⟩ := h.env
  obtain ⟨e2, rfl⟩ := List.cons.inj e1
  obtain rfl : x = w := Option.some.inj e2
  cases y with
  | sh d =>
    cases d with
    | lst ds =>
      obtain rfl := Option.some.inj e
      obtain ⟨rfl, rd⟩ := RepV.sh_iff.mp p
      simp only [RepD] at rd
      obtain ⟨a, vs, rfl, sq, rds⟩ := rd
      have rs := RepVs.shs (H := H) rds
      refine ⟨a, vs, a2, rfl, .inl sq, by rw [List.length_map, rds.length], ⟨h.le, ?_, h.nd, h.off⟩, fun b hb => hb⟩
      exact rs.slots.join q
    | _ => cases e
  | ol xs =>
    obtain rfl := Option.some.inj e
    simp only [RepV] at p
    obtain ⟨a, vs, bs, rfl, rfl, ha, rv⟩ := p
    have nd := List.nodup_cons.mp h.nd
    refine ⟨a, vs, bs ++ a2, rfl, .inr ⟨ha, nd.1⟩, rv.length.symm, ⟨h.le, rv.slots.join q, nd.2, fun b hb => h.off b (List.mem_cons_of_mem _ hb)⟩, fun b hb => List.mem_cons_of_mem _ hb⟩
  | _ => cases e
theorem Rep.itemsC {G : Gc} {y : Val} {x : V} {η : Env} {σ : L2.St} {as : List Addr} {H Hs : Hp} {ys : List Val} (h : Rep G (some y :: η) (some x :: σ) as H Hs) (e : itemsT y = some ys) :
    ∃ a vs as', x = .ref a ∧ CT G.K a vs as' H Hs ∧ vs.length = ys.length ∧ Rep G (ys.map some ++ η) (vs.map some ++ σ) as' H Hs ∧ (∀ b ∈ as', b ∈ as) := by
  obtain ⟨w, σ', a1, a2, e1, rfl, p, q⟩ := h.env
  obtain ⟨e2, rfl⟩ := List.cons.inj e1
  obtain rfl : x = w := Option.some.inj e2
  cases y with
  | sh d =>
    cases d with
    | tup ds =>
      obtain rfl := Option.some.inj e
      obtain ⟨rfl, rd⟩ := RepV.sh_iff.mp p
      simp only [RepD] at rd
      obtain ⟨a, vs, rfl, sq, rds⟩ := rd
      have rs := RepVs.shs (H := H) rds
      refine ⟨a, vs, a2, rfl, .inl sq, by rw [List.length_map, rds.length], ⟨h.le, ?_, h.nd, h.off⟩, fun b hb => hb⟩
      exact rs.slots.join q
    | _ => cases e
  | ot xs =>
    obtain rfl := Option.some.inj e
    simp only [RepV] at p
    obtain ⟨a, vs, bs, rfl, rfl, ha, rv⟩ := p
    have nd := List.nodup_cons.mp h.nd
    refine ⟨a, vs, bs ++ a2, rfl, .inr ⟨ha, nd.1⟩, rv.length.symm, ⟨h.le, rv.slots.join q, nd.2, fun b hb => h.off b (List.mem_cons_of_mem _ hb)⟩, fun b hb => List.mem_cons_of_mem _ hb⟩
  | _ => cases e
theorem PI.or {tg iter : Expr} {w1 w2 : TI} (h1 : PI X tg iter w1) (h2 : PI X tg iter w2) : PI X tg iter (fun σ H R => w1 σ H R ∨ w2 σ H R) :=
  ⟨fun pins s σ H R I h => h.elim (h1.run pins s σ H R I) (h2.run pins s σ H R I)⟩
def fSeqI (f : FO) : FI := fun η => bindR (f η) fun o η1 => match esc1 o η1 with
  | some (y, η2) => (match itemsL y with
    | some ys => okR ys η2
    | none => (match itemsT y with
      | some ys => okR ys η2
      | none => none))
  | none => none
theorem okI_seq {tg e : Expr} {f : FO} (ok : Cok M S k W X) (he : OkO M X W e f) : OkI M X W tg e (fSeqI f) := by
  obtain ⟨P, w, K, mg, base, C⟩ := M
  have emd := ok.md
  simp only [mdOf, Md.mk.injEq, and_true] at emd
  obtain ⟨rfl, rfl, rfl, rfl, rfl⟩ := emd
  obtain ⟨t, ht, hh⟩ := he
  refine ⟨_, PI.or (pi_list ht) (pi_tup ht), fun η σ as H Hs r R hR hf hp => ?_⟩
  rcases bindR_inv hf with ⟨o, η1, e1, e2⟩ | ⟨c, p, η1, e1, rfl⟩
  · cases e3 : esc1 o η1 with
    | none =>
      rw [e3] at e2
      cases e2
    | some q =>
      obtain ⟨y, η2⟩ := q
      rw [e3] at e2
      simp only at e2
      cases e4 : itemsL y with
      | some ys =>
        rw [e4] at e2
        obtain rfl : r = .ok ys η2 := (Option.some.inj e2).symm
        refine .inl (hh η σ as H Hs _ _ hR e1 fun v as' H' Hs' r1 l1 x1 => ?_)
        obtain ⟨as2, Hs2, r2, x2⟩ := esc1_ok (π := []) (τ := []) r1 rfl l1 e3
        obtain ⟨a, vs, as3, rfl, cl, hl, r3, m3⟩ := Rep.itemsL r2 e4
        exact ⟨a, rfl, ⟨vs, cl.sq r3.le⟩, hp _ _ _ _ as3 H' Hs2 (it_list hl) cl r3 ((x1.trans x2).less m3)⟩
      | none =>
        rw [e4] at e2
        simp only at e2
        cases e5 : itemsT y with
        | none =>
          rw [e5] at e2
          cases e2
        | some ys =>
          rw [e5] at e2
          obtain rfl : r = .ok ys η2 := (Option.some.inj e2).symm
          refine .inr (hh η σ as H Hs _ _ hR e1 fun v as' H' Hs' r1 l1 x1 => ?_)
          obtain ⟨as2, Hs2, r2, x2⟩ := esc1_ok (π := []) (τ := []) r1 rfl l1 e3
          obtain ⟨a, vs, as3, rfl, cl, hl, r3, m3⟩ := Rep.itemsC r2 e5
          exact ⟨a, rfl, ⟨vs, cl.sq r3.le⟩, hp _ _ _ _ as3 H' Hs2 (it_tup hl) cl r3 ((x1.trans x2).less m3)⟩
  · exact .inl (hh η σ as H Hs _ _ hR e1 hp)

/-! ### ranges walked -/
def rngV (lo : Int) (n : Nat) : List Val := (List.range n).map fun i : Nat => .sh (.int (lo + i))
theorem rngV_len (lo : Int) (n : Nat) : (rngV lo n).length = n := by unfold rngV; rw [List.length_map, List.length_range]
theorem it_rng {G : Gc} {lo : Int} {n : Nat} : ItOk G (Itr lo n) (List.replicate n none) (List.replicate n none) (rngV lo n) (fun _ _ _ => True) where
  lp := by rw [List.length_replicate, rngV_len]
  lt := by rw [List.length_replicate, rngV_len]
  stable := fun _ _ _ _ _ _ _ _ => trivial
  go := fun i as H Hs s c hi => by rw [rngV_len] at hi; exact hi
  stop := fun as H Hs s c => by rw [rngV_len]; exact Nat.le_refl _
  yld := fun i as H Hs x H2 y s c ey hy => by
    obtain ⟨rfl, rfl⟩ := hy
    have hi : i < n := by
      have := (List.getElem?_eq_some_iff.mp ey).1
      rw [rngV_len] at this
      exact this
    have e : y = .sh (.int (lo + i)) := by
      unfold rngV at ey
      rw [List.getElem?_map, List.getElem?_range hi] at ey
      exact (Option.some.inj ey).symm
    subst e
    exact .inr ⟨by rw [List.getElem?_replicate, if_pos hi], Sub.refl, [], RepV.sh_iff.mpr ⟨rfl, by simp only [RepD]⟩, List.nodup_nil, fun _ z => nomatch z⟩
theorem Rep.nones {G : Gc} {η : Env} {σ : L2.St} {as : List Addr} {H Hs : Hp} (h : Rep G η σ as H Hs) : ∀ n, Rep G (List.replicate n none ++ η) (List.replicate n none ++ σ) as H Hs
  | 0 => h
  | n + 1 => RepO.none_top (Rep.nones h n)
def small62 (i : Int) : Bool := decide (-(2 ^ 62) ≤ i ∧ i < 2 ^ 62)
def rngC (lo c : Int) (n : Nat) : List Val := (List.range n).map fun i : Nat => .sh (.int (lo + (i : Nat) * c))
theorem rngC_len (lo c : Int) (n : Nat) : (rngC lo c n).length = n := by unfold rngC; rw [List.length_map, List.length_range]
theorem it_rngC {G : Gc} {lo c : Int} {n : Nat} : ItOk G (Itc lo c n) (List.replicate n none) (List.replicate n none) (rngC lo c n) (fun _ _ _ => True) where
  lp := by rw [List.length_replicate, rngC_len]
  lt := by rw [List.length_replicate, rngC_len]
  stable := fun _ _ _ _ _ _ _ _ => trivial
  go := fun i as H Hs s c hi => by rw [rngC_len] at hi; exact hi
  stop := fun as H Hs s c => by rw [rngC_len]; exact Nat.le_refl _
  yld := fun i as H Hs x H2 y s _ ey hy => by
    obtain ⟨rfl, rfl⟩ := hy
    have hi : i < n := by
      have := (List.getElem?_eq_some_iff.mp ey).1
      rw [rngC_len] at this
      exact this
    have e : y = .sh (.int (lo + (i : Nat) * c)) := by
      unfold rngC at ey
      rw [List.getElem?_map, List.getElem?_range hi] at ey
      exact (Option.some.inj ey).symm
    subst e
    exact .inr ⟨by rw [List.getElem?_replicate, if_pos hi], Sub.refl, [], RepV.sh_iff.mpr ⟨rfl, by simp only [RepD]⟩, List.nodup_nil, fun _ z => nomatch z⟩
/-- the operands as data, so many of them -/
def dataR (na : Nat) (g : FL) (η : Env) : RO (List D) := bindR (g η) fun os η1 => if os.length = na then (match prepAll os η1 with
  | some (ds, η2) => okR ds η2
  | none => none) else none
def fRng1 (g : FL) : FI := fun η => bindR (dataR 1 g η) fun ds η2 => match ds with
  | [.int j] => if small62 j then okR (rngV 0 j.toNat) η2 else none
  | _ => none
def fRng2 (g : FL) : FI := fun η => bindR (dataR 2 g η) fun ds η2 => match ds with
  | [.int i, .int j] => if small62 i && small62 j then okR (rngV i (j - i).toNat) η2 else none
  | _ => none
def rgcB (i j c : Int) : Bool := decide (c ≠ 0 ∧ c.natAbs < 1073741824) && Builtin.Range.small i j c && decide (0 ≤ Builtin.Range.rangeSize i j c)
def fRng3 (g : FL) : FI := fun η => bindR (dataR 3 g η) fun ds η2 => match ds with
  | [.int i, .int j, .int c] => if rgcB i j c then okR (rngC i c (Builtin.Range.rangeSize i j c).toNat) η2 else none
  | _ => none
theorem dataR_inv {na : Nat} {g : FL} {η : Env} {r : Res (List D)} (h : dataR na g η = some r) : (∃ os η1 ds η2, g η = some (.ok os η1) ∧ os.length = na ∧ prepAll os η1 = some (ds, η2) ∧ r = .ok ds η2) ∨ ∃ c p η1, g η = some (.exc c p η1) ∧ r = .exc c p η1 := by
  unfold dataR at h
  rcases bindR_inv h with ⟨os, η1, e1, e2⟩ | ⟨c, p, η1, e1, rfl⟩
  · by_cases hl : os.length = na
    · rw [if_pos hl] at e2
      cases e3 : prepAll os η1 with
      | none =>
        rw [e3] at e2
        cases e2
      | some q =>
        obtain ⟨ds, η2⟩ := q
        rw [e3] at e2
        exact .inl ⟨os, η1, ds, η2, e1, hl, e3, (Option.some.inj e2).symm⟩
    · rw [if_neg hl] at e2
      cases e2
  · exact .inr ⟨c, p, η1, e1, rfl⟩
theorem OkL.data {es : List Expr} {g : FL} (h : OkL M X W es g) : ∃ t, PA X es t ∧ ∀ η σ as H Hs (na : Nat) r (Q : List V → Hp → Prop), Rep M.G η σ as H Hs → dataR na g η = some r →
    (match r with
      | .ok ds η' => ∀ vs as' H' Hs', vs.length = na → Rep M.G η' σ as' H' Hs' → RepTs M.G H' Hs' ds vs → Ext as H Hs as' H' Hs' → Q vs H'
      | .exc c p η' => PostX M.G W σ as H Hs c p η') → t σ H Q := by
  obtain ⟨t, ht, hh⟩ := h
  refine ⟨t, ht, fun η σ as H Hs na r Q hR hf hp => ?_⟩
  rcases dataR_inv hf with ⟨os, η1, ds, η2, e1, hl, e3, rfl⟩ | ⟨c, p, η1, e1, rfl⟩
  · refine hh η σ as H Hs _ _ hR e1 fun vs as' H' Hs' r1 l1 x1 => ?_
    obtain ⟨as2, Hs2, r2, x2, t2⟩ := prep_ok r1 l1 e3
    exact hp vs as2 H' Hs2 (l1.length.trans hl) r2 t2 (x1.trans x2)
  · exact hh η σ as H Hs _ _ hR e1 hp
theorem RepTs.one {G : Gc} {H Hs : Hp} {d : D} {vs : List V} (h : RepTs G H Hs [d] vs) : ∃ v, vs = [v] ∧ RepT G H Hs d v := by
  obtain ⟨v, ws, rfl, h1, h2⟩ := h
  obtain rfl : ws = [] := h2
  exact ⟨v, rfl, h1⟩
theorem RepTs.two {G : Gc} {H Hs : Hp} {d e : D} {vs : List V} (h : RepTs G H Hs [d, e] vs) : ∃ v u, vs = [v, u] ∧ RepT G H Hs d v ∧ RepT G H Hs e u := by
  obtain ⟨v, ws, rfl, h1, h2⟩ := h
  obtain ⟨u, rfl, h3⟩ := RepTs.one h2
  exact ⟨v, u, rfl, h1, h3⟩
theorem RepTs.three {G : Gc} {H Hs : Hp} {d e f : D} {vs : List V} (h : RepTs G H Hs [d, e, f] vs) : ∃ v u w, vs = [v, u, w] ∧ RepT G H Hs d v ∧ RepT G H Hs e u ∧ RepT G H Hs f w := by
  obtain ⟨v, ws, rfl, h1, h2⟩ := h
  obtain ⟨u, w, rfl, h3, h4⟩ := RepTs.two h2
  exact ⟨v, u, w, rfl, h1, h3, h4⟩
theorem gl_ok {x : Str} (ok : Cok M S k W X) (hg : S.sc.names.lookup x = some .globalImplicit) : Gl X x := by
  show X.env.scope.names.lookup _ = _
  rw [ok.sc]
  exact hg
theorem okI_rng1 {tg a : Expr} {g : FL} {p : Pos} (ok : Cok M S k W X) (hg : S.sc.names.lookup ("range" : Str) = some .globalImplicit) (hm : M.mg "range" = none) (ha : OkL M X W [a] g) (hs : noStar a = true) : OkI M X W tg (.Call (.Name "range" p) [a] [] pos) (fRng1 g) := by
  have hgl := gl_ok ok hg
  obtain ⟨P, w, K, mg, base, C⟩ := M
  have emd := ok.md
  simp only [mdOf, Md.mk.injEq, and_true] at emd
  obtain ⟨rfl, rfl, rfl, rfl, rfl⟩ := emd
  obtain ⟨t, ht, hh⟩ := ha.data
  refine ⟨_, pi_range1 hgl hm ht (star_cons hs), fun η σ as H Hs r R hR hf hp => ?_⟩
  rcases bindR_inv hf with ⟨ds, η1, e1, e2⟩ | ⟨c, p, η1, e1, rfl⟩
  · refine hh η σ as H Hs _ _ _ hR e1 fun vs as' H' Hs' l1 r1 t1 x1 => ?_
    rcases ds with _ | ⟨_ | _ | i | _ | _ | _ | _ | _, _ | ⟨_, _⟩⟩ <;> first | cases e2 | skip
    obtain ⟨v, rfl, t2⟩ := t1.one
    obtain rfl : v = .int i := t2
    simp only at e2
    by_cases h : small62 i = true
    · rw [if_pos h] at e2
      obtain rfl : r = .ok _ η1 := (Option.some.inj e2).symm
      have hb := of_decide_eq_true h
      exact ⟨i, rfl, hb.1, hb.2, hp _ _ _ _ as' H' Hs' it_rng trivial (r1.nones _) x1⟩
    · rw [if_neg h] at e2
      cases e2
  · exact hh η σ as H Hs _ _ _ hR e1 hp
theorem okI_rng2 {tg a b : Expr} {g : FL} {p : Pos} (ok : Cok M S k W X) (hg : S.sc.names.lookup ("range" : Str) = some .globalImplicit) (hm : M.mg "range" = none) (ha : OkL M X W [a, b] g) (hs : noStar a = true) (hs2 : noStar b = true) : OkI M X W tg (.Call (.Name "range" p) [a, b] [] pos) (fRng2 g) := by
  have hgl := gl_ok ok hg
  obtain ⟨P, w, K, mg, base, C⟩ := M
  have emd := ok.md
  simp only [mdOf, Md.mk.injEq, and_true] at emd
  obtain ⟨rfl, rfl, rfl, rfl, rfl⟩ := emd
  obtain ⟨t, ht, hh⟩ := ha.data
  refine ⟨_, pi_range2 hgl hm ht (by rw [star_cons hs, star_cons hs2]; rfl) (star_cons hs2), fun η σ as H Hs r R hR hf hp => ?_⟩
  rcases bindR_inv hf with ⟨ds, η1, e1, e2⟩ | ⟨c, p, η1, e1, rfl⟩
  · refine hh η σ as H Hs _ _ _ hR e1 fun vs as' H' Hs' l1 r1 t1 x1 => ?_
    rcases ds with _ | ⟨_ | _ | i | _ | _ | _ | _ | _, _ | ⟨_ | _ | j | _ | _ | _ | _ | _, _ | ⟨_, _⟩⟩⟩ <;> first | cases e2 | skip
    obtain ⟨v, u, rfl, t2, t3⟩ := t1.two
    obtain rfl : v = .int i := t2
    obtain rfl : u = .int j := t3
    simp only at e2
    by_cases h : (small62 i && small62 j) = true
    · rw [if_pos h] at e2
      obtain rfl : r = .ok _ η1 := (Option.some.inj e2).symm
      rw [Bool.and_eq_true] at h
      have hb := of_decide_eq_true h.1
      have hb2 := of_decide_eq_true h.2
      exact ⟨i, j, rfl, ⟨hb.1, hb.2, hb2.1, hb2.2⟩, hp _ _ _ _ as' H' Hs' it_rng trivial (r1.nones _) x1⟩
    · rw [if_neg h] at e2
      cases e2
  · exact hh η σ as H Hs _ _ _ hR e1 hp
theorem okI_rng3 {tg a b c : Expr} {g : FL} {p : Pos} (ok : Cok M S k W X) (hg : S.sc.names.lookup ("range" : Str) = some .globalImplicit) (hm : M.mg "range" = none) (ha : OkL M X W [a, b, c] g) (hs : [a, b, c].all noStar = true) : OkI M X W tg (.Call (.Name "range" p) [a, b, c] [] pos) (fRng3 g) := by
  have hgl := gl_ok ok hg
  obtain ⟨P, w, K, mg, base, C⟩ := M
  have emd := ok.md
  simp only [mdOf, Md.mk.injEq, and_true] at emd
  obtain ⟨rfl, rfl, rfl, rfl, rfl⟩ := emd
  obtain ⟨t, ht, hh⟩ := ha.data
  rw [List.all_cons, Bool.and_eq_true] at hs
  refine ⟨_, pi_range3 hgl hm ht (star_cons hs.1) (star_plain hs.2), fun η σ as H Hs r R hR hf hp => ?_⟩
  rcases bindR_inv hf with ⟨ds, η1, e1, e2⟩ | ⟨c, p, η1, e1, rfl⟩
  · refine hh η σ as H Hs _ _ _ hR e1 fun vs as' H' Hs' l1 r1 t1 x1 => ?_
    rcases ds with _ | ⟨_ | _ | i | _ | _ | _ | _ | _, _ | ⟨_ | _ | j | _ | _ | _ | _ | _, _ | ⟨_ | _ | l | _ | _ | _ | _ | _, _ | ⟨_, _⟩⟩⟩⟩ <;> first | cases e2 | skip
    obtain ⟨v, u, z, rfl, t2, t3, t4⟩ := t1.three
    obtain rfl : v = .int i := t2
    obtain rfl : u = .int j := t3
    obtain rfl : z = .int l := t4
    simp only at e2
    by_cases h : rgcB i j l = true
    · rw [if_pos h] at e2
      obtain rfl : r = .ok _ η1 := (Option.some.inj e2).symm
      unfold rgcB at h
      rw [Bool.and_eq_true, Bool.and_eq_true] at h
      have hb := of_decide_eq_true h.1.1
      have hb2 := of_decide_eq_true h.2
      exact ⟨i, j, l, _, rfl, ⟨hb.1, hb.2, h.1.2, (Int.toNat_of_nonneg hb2).symm⟩, hp _ _ _ _ as' H' Hs' it_rngC trivial (r1.nones _) x1⟩
    · rw [if_neg h] at e2
      cases e2
  · exact hh η σ as H Hs _ _ _ hR e1 hp

/-! ### enumerate, zip -/
def shItems (y : Val) : Option (List D) := (itemsL y).bind shAll
def numV : Nat → List D → List Val
  | _, [] => []
  | n, d :: ds => .ot [.sh (.int (n : Nat)), .sh d] :: numV (n + 1) ds
theorem numV_len : ∀ (n : Nat) (ds : List D), (numV n ds).length = ds.length
  | _, [] => rfl
  | n, d :: ds => congrArg Nat.succ (numV_len (n + 1) ds)
theorem numV_get : ∀ (ds : List D) (n i : Nat) (d : D), ds[i]? = some d → (numV n ds)[i]? = some (.ot [.sh (.int ((n + i : Nat) : Int)), .sh d])
  | [], _, _, _, h => by simp at h
  | d :: ds, n, 0, x, h => by
    simp at h
    subst h
    rfl
  | d :: ds, n, i + 1, x, h => by
    show (numV (n + 1) ds)[i]? = _
    rw [numV_get ds (n + 1) i x (by simpa using h), show n + 1 + i = n + (i + 1) by omega]
/-- a list of shared items at a -/
def CI (G : Gc) (a : Addr) (ds : List D) (vs : List V) : List Addr → Hp → Hp → Prop := fun as H Hs => CL G.K a vs as H Hs ∧ RepDs G Hs ds vs
theorem CI.stable {G : Gc} {a : Addr} {ds : List D} {vs : List V} {as as' : List Addr} {H Hs H' Hs' : Hp} (c : CI G a ds vs as H Hs) (x : Ext as H Hs as' H' Hs') : CI G a ds vs as' H' Hs' := ⟨c.1.stable x, RepDs.le c.2 x.grow.le⟩
theorem pair_new {G : Gc} {H Hs : Hp} {T : Addr} {x y : V} {d e : D} (n : H T = none) (h1 : RepD G Hs d x) (h2 : RepD G Hs e y) : Sub H (upd H T (.tup [x, y])) ∧ ∃ b, RepV G (upd H T (.tup [x, y])) Hs (.ot [.sh d, .sh e]) (.ref T) b ∧ b.Nodup ∧ ∀ a ∈ b, H a = none := by
  refine ⟨fun b o q => ?_, [T], ?_, by simp, fun a ha => by rw [List.mem_singleton.mp ha]; exact n⟩
  · rw [upd_ne (ne_of_none q n)]
    exact q
  · simp only [RepV]
    refine ⟨T, [x, y], [], rfl, rfl, upd_same, ?_⟩
    exact RepVs.cons (a1 := []) (RepV.sh_iff.mpr ⟨rfl, h1⟩) (RepVs.cons (a1 := []) (RepV.sh_iff.mpr ⟨rfl, h2⟩) (RepVs.nil_iff.mpr ⟨rfl, rfl⟩))
theorem it_enum {G : Gc} {a : Addr} {vs : List V} {ds : List D} (hl : ds.length = vs.length) : ItOk G (Ite G.K a) (List.replicate ds.length none) (List.replicate ds.length none) (numV 0 ds) (CI G a ds vs) where
  lp := by rw [List.length_replicate, numV_len]
  lt := by rw [List.length_replicate, numV_len]
  stable := fun _ _ _ _ _ _ c x => c.stable x
  go := fun i as H Hs s c hi => by
    rw [numV_len] at hi
    exact ⟨vs, vs[i]'(by omega), c.1.sq s, by rw [List.getElem?_eq_getElem]⟩
  stop := fun as H Hs s c => ⟨vs, c.1.sq s, by rw [numV_len]; omega⟩
  yld := fun i as H Hs x H2 y s c ey hy => by
    obtain ⟨T, u, rfl, nT, rfl, hu⟩ := hy
    have hi : i < ds.length := by
      have := (List.getElem?_eq_some_iff.mp ey).1
      rw [numV_len] at this
      exact this
    have hd : ds[i]? = some ds[i] := by simp [hi]
    rw [numV_get ds 0 i _ hd] at ey
    obtain rfl := Option.some.inj ey
    obtain ⟨w, e1, rw1⟩ := c.2.get hd
    rw [hu vs (c.1.sq s)] at e1
    obtain rfl := Option.some.inj e1
    refine .inr ⟨by rw [List.getElem?_replicate, if_pos hi], ?_⟩
    rw [Nat.zero_add]
    exact pair_new nT (by simp only [RepD]) rw1
def fEnum (g : FO) : FI := fun η => bindR (g η) fun o η1 => match esc1 o η1 with
  | some (y, η2) => (match shItems y with
    | some ds => okR (numV 0 ds) η2
    | none => none)
  | none => none
theorem shItems_inv {y : Val} {ds : List D} (h : shItems y = some ds) : itemsL y = some (ds.map .sh) := by
  unfold shItems at h
  simp only [Option.bind_eq_some_iff] at h
  obtain ⟨xs, h1, h2⟩ := h
  rw [h1, shAll_inv h2]
/-- the walked list laid aside -/
theorem Rep.aside {G : Gc} {y : Val} {x : V} {η : Env} {σ : L2.St} {as : List Addr} {H Hs : Hp} {ds : List D} (h : Rep G (some y :: η) (some x :: σ) as H Hs) (e : shItems y = some ds) :
    ∃ a vs as', x = .ref a ∧ CI G a ds vs as' H Hs ∧ ds.length = vs.length ∧ Rep G η σ as' H Hs ∧ (∀ b ∈ as', b ∈ as) := by
  obtain ⟨a, vs, as', e1, cl, hl, r, m⟩ := h.itemsL (shItems_inv e)
  obtain ⟨b1, b2, rfl, p, q⟩ := r.sub (by simp [hl])
  have rd := (RepO.vals p).shs_inv
  refine ⟨a, vs, b2, e1, ⟨?_, rd⟩, rd.length, q, fun b hb => m b (by simp [hb])⟩
  rcases cl with c | ⟨c, n⟩
  · exact .inl c
  · exact .inr ⟨c, fun z => n (by simp [z])⟩
theorem okI_enum {a : Expr} {g : FO} {p tpos : Pos} {elts : List Expr} {kk : Nat} (ok : Cok M S k W X) (hg : S.sc.names.lookup ("enumerate" : Str) = some .globalImplicit) (hm : M.mg "enumerate" = none) (ha : OkO M X W a g) (hs : noStar a = true) : OkI M X W (.Tuple elts kk tpos) (.Call (.Name "enumerate" p) [a] [] pos) (fEnum g) := by
  have hgl := gl_ok ok hg
  obtain ⟨P, w, K, mg, base, C⟩ := M
  have emd := ok.md
  simp only [mdOf, Md.mk.injEq, and_true] at emd
  obtain ⟨rfl, rfl, rfl, rfl, rfl⟩ := emd
  obtain ⟨t, ht, hh⟩ := ha
  refine ⟨_, pi_enum hgl hm (pa_cons ht pa_nil (star_cons hs)) (star_cons hs), fun η σ as H Hs r R hR hf hp => ?_⟩
  rcases bindR_inv hf with ⟨o, η1, e1, e2⟩ | ⟨c, p, η1, e1, rfl⟩
  · refine hh η σ as H Hs _ _ hR e1 fun v as' H' Hs' r1 l1 x1 => ?_
    cases e3 : esc1 o η1 with
    | none =>
      rw [e3] at e2
      cases e2
    | some q =>
      obtain ⟨y, η2⟩ := q
      rw [e3] at e2
      simp only at e2
      cases e4 : shItems y with
      | none =>
        rw [e4] at e2
        cases e2
      | some ds =>
        rw [e4] at e2
        obtain rfl : r = .ok _ η2 := (Option.some.inj e2).symm
        obtain ⟨as2, Hs2, r2, x2⟩ := esc1_ok (π := []) (τ := []) r1 rfl l1 e3
        obtain ⟨a, vs, as3, rfl, ci, hl, r3, m3⟩ := Rep.aside r2 e4
        exact ⟨a, vs, rfl, ci.1.sq r3.le, hp _ _ _ _ as3 H' Hs2 (it_enum hl) ci (r3.nones _) ((x1.trans x2).less m3)⟩
  · exact hh η σ as H Hs _ _ hR e1 hp
def zipV (ds es : List D) : List Val := (ds.zip es).map fun p => .ot [.sh p.1, .sh p.2]
theorem zipV_len (ds es : List D) : (zipV ds es).length = min ds.length es.length := by unfold zipV; rw [List.length_map, List.length_zip]
/-- two lists aside -/
def CI2 (G : Gc) (a b : Addr) (ds es : List D) (vs us : List V) : List Addr → Hp → Hp → Prop := fun as H Hs => CI G a ds vs as H Hs ∧ CI G b es us as H Hs
theorem it_zip {G : Gc} {a b : Addr} {vs us : List V} {ds es : List D} (hl : ds.length = vs.length) (hl2 : es.length = us.length) : ItOk G (Itz G.K a b) (List.replicate (min ds.length es.length) none) (List.replicate (min ds.length es.length) none) (zipV ds es) (CI2 G a b ds es vs us) where
  lp := by rw [List.length_replicate, zipV_len]
  lt := by rw [List.length_replicate, zipV_len]
  stable := fun _ _ _ _ _ _ c x => ⟨c.1.stable x, c.2.stable x⟩
  go := fun i as H Hs s c hi => by
    rw [zipV_len] at hi
    exact ⟨vs, us, vs[i]'(by omega), us[i]'(by omega), c.1.1.sq s, c.2.1.sq s, by rw [List.getElem?_eq_getElem], by rw [List.getElem?_eq_getElem]⟩
  stop := fun as H Hs s c => ⟨vs, us, c.1.1.sq s, c.2.1.sq s, by rw [zipV_len]; omega⟩
  yld := fun i as H Hs x H2 y s c ey hy => by
    obtain ⟨T, u, z, rfl, nT, rfl, hu, hz⟩ := hy
    have hi : i < min ds.length es.length := by
      have := (List.getElem?_eq_some_iff.mp ey).1
      rw [zipV_len] at this
      exact this
    have hd : ds[i]? = some (ds[i]'(by omega)) := by rw [List.getElem?_eq_getElem]
    have he : es[i]? = some (es[i]'(by omega)) := by rw [List.getElem?_eq_getElem]
    have ez : (ds.zip es)[i]? = some (ds[i]'(by omega), es[i]'(by omega)) := by
      rw [List.getElem?_zip_eq_some]
      exact ⟨hd, he⟩
    unfold zipV at ey
    rw [List.getElem?_map, ez] at ey
    obtain rfl := Option.some.inj ey
    obtain ⟨w, e1, rw1⟩ := c.1.2.get hd
    obtain ⟨w2, e2, rw2⟩ := c.2.2.get he
    rw [hu vs (c.1.1.sq s)] at e1
    rw [hz us (c.2.1.sq s)] at e2
    obtain rfl := Option.some.inj e1
    obtain rfl := Option.some.inj e2
    exact .inr ⟨by rw [List.getElem?_replicate, if_pos hi], pair_new nT rw1 rw2⟩
def fZip (g : FL) : FI := fun η => bindR (g η) fun os η1 => match escAll os η1 with
  | some ([y, z], η2) => (match shItems y, shItems z with
    | some ds, some es => okR (zipV ds es) η2
    | _, _ => none)
  | _ => none
theorem okI_zip {a b : Expr} {g : FL} {p tpos : Pos} {elts : List Expr} {kk : Nat} (ok : Cok M S k W X) (hg : S.sc.names.lookup ("zip" : Str) = some .globalImplicit) (hm : M.mg "zip" = none) (ha : OkL M X W [a, b] g) (hs : noStar a = true) (hs2 : noStar b = true) : OkI M X W (.Tuple elts kk tpos) (.Call (.Name "zip" p) [a, b] [] pos) (fZip g) := by
  have hgl := gl_ok ok hg
  obtain ⟨P, w, K, mg, base, C⟩ := M
  have emd := ok.md
  simp only [mdOf, Md.mk.injEq, and_true] at emd
  obtain ⟨rfl, rfl, rfl, rfl, rfl⟩ := emd
  obtain ⟨t, ht, hh⟩ := ha
  refine ⟨_, pi_zip hgl hm ht (star_cons hs) (star_plain (by simp [hs2])), fun η σ as H Hs r R hR hf hp => ?_⟩
  rcases bindR_inv hf with ⟨os, η1, e1, e2⟩ | ⟨c, p, η1, e1, rfl⟩
  · refine hh η σ as H Hs _ _ hR e1 fun vs as' H' Hs' r1 l1 x1 => ?_
    cases e3 : escAll os η1 with
    | none =>
      rw [e3] at e2
      cases e2
    | some q =>
      obtain ⟨xs, η2⟩ := q
      rw [e3] at e2
      obtain ⟨as2, Hs2, r2, x2⟩ := escAll_ok (π := []) (τ := []) r1 rfl l1 e3
      rcases xs with _ | ⟨y, _ | ⟨z, _ | ⟨_, _⟩⟩⟩ <;> first | cases e2 | skip
      simp only at e2
      cases e4 : shItems y with
      | none =>
        rw [e4] at e2
        cases e2
      | some ds =>
        cases e5 : shItems z with
        | none =>
          rw [e4, e5] at e2
          cases e2
        | some es =>
          rw [e4, e5] at e2
          obtain rfl : r = .ok _ η2 := (Option.some.inj e2).symm
          have lv : vs.length = 2 := by
            have l0 := r2.env.length
            have l2 := hR.env.length
            have aux : ∀ os η xs η', escAll os η = some (xs, η') → xs.length = os.length := by
              intro os
              induction os with
              | nil => intro η xs η' h; simp only [escAll, Option.some.injEq, Prod.mk.injEq] at h; rw [← h.1]; rfl
              | cons o os ih =>
                intro η xs η' h
                simp only [escAll] at h
                cases q1 : esc1 o η with
                | none => rw [q1] at h; cases h
                | some z =>
                  obtain ⟨y', ηy⟩ := z
                  rw [q1] at h
                  simp only at h
                  cases q2 : escAll os ηy with
                  | none => rw [q2] at h; cases h
                  | some z2 =>
                    obtain ⟨ys, ηz⟩ := z2
                    rw [q2] at h
                    simp only [Option.some.injEq, Prod.mk.injEq] at h
                    rw [← h.1]
                    simp [ih _ _ _ q2]
            rw [l1.length, ← aux _ _ _ _ e3]
            rfl
          rcases vs with _ | ⟨v1, _ | ⟨v2, _ | ⟨_, _⟩⟩⟩ <;> first | (simp at lv; done) | skip
          have r3 : Rep _ (some y :: some z :: η2) (some v1 :: some v2 :: σ) as2 H' Hs2 := r2
          obtain ⟨a, vs1, as3, rfl, ci, hl, r4, m4⟩ := r3.aside e4
          obtain ⟨b, vs2, as4, rfl, ci2, hl2, r5, m5⟩ := r4.aside e5
          have ci' : CI (⟨X.K, C⟩ : Gc) a ds vs1 as4 H' Hs2 := by
            refine ⟨?_, ci.2⟩
            rcases ci.1 with c | ⟨c, n⟩
            · exact .inl c
            · exact .inr ⟨c, fun z => n (m5 a z)⟩
          exact ⟨a, b, vs1, vs2, rfl, ci'.1.sq r5.le, ci2.1.sq r5.le, hp _ _ _ _ as4 H' Hs2 (it_zip hl hl2) ⟨ci', ci2⟩ (r5.nones _) ((x1.trans x2).less fun a ha => m4 a (m5 a ha))⟩
  · exact hh η σ as H Hs _ _ hR e1 hp
end
end Wp
end
section
set_option Elab.async false
set_option linter.all false
set_option maxRecDepth 100000
/-! WpI: list comprehensions. -/
namespace Wp
open PySem PySem.Spec PyProof.Rows L2

/-! ### the one transformer of a reading -/
def WF : WX := fun _ _ _ _ => False
def tO (M : Md) (W : WX) (f : FO) : TE := fun σ H Q => ∃ η as Hs r, Rep M.G η σ as H Hs ∧ f η = some r ∧ PostO M.G W σ as H Hs Q r
def tT (M : Md) (W : WX) (f : FT) : TT := fun σ H Q => ∃ η as Hs r, Rep M.G η σ as H Hs ∧ f η = some r ∧ PostT M.G W σ as H Hs Q r
def tG (M : Md) (kp : List Nat) (f : FG) : TG := fun x σ H Q => ∃ (π : Env) (τ : L2.St) (η : Env) (as : List Addr) (Hs : Hp) (y : Val) (η1 : Env), Rep M.G (some y :: (π ++ η)) (some x :: (τ ++ σ)) as H Hs ∧ τ.length = π.length ∧ f y η = some η1 ∧
  ∀ σ1 as1, Rep M.G (π ++ η1) (τ ++ σ1) as1 H Hs → (∀ a ∈ as1, a ∈ as) → Kept kp σ σ1 → Q σ1 H
section
variable {M : Md} {X : Cx} {W : WX} {e : Expr} {kp : List Nat}
theorem OkO.canon {f : FO} (h : OkO M X W e f) : PE X e (tO M W f) := by
  obtain ⟨t, ht, hh⟩ := h
  exact ⟨fun pins s σ H Q I ⟨η, as, Hs, r, a, b, c⟩ => ht.run pins s σ H Q I (hh η σ as H Hs r Q a b c)⟩
theorem OkT.canon {f : FT} (h : OkT M X W e f) : PT X e (tT M W f) := by
  obtain ⟨t, ht, hh⟩ := h
  exact ⟨fun pins s σ H Q I ⟨η, as, Hs, r, a, b, c⟩ => ht.run pins s σ H Q I (hh η σ as H Hs r Q a b c)⟩
theorem OkG.canon {f : FG} (h : OkG M X kp e f) : PG X e (tG M kp f) := by
  obtain ⟨t, ht, hh⟩ := h
  exact ⟨fun pins s σ H v u Q I r ⟨π, τ, η, as, Hs, y, η1, a, b, c, d⟩ => ht.run pins s σ H v u Q I r (hh π τ η σ as H Hs y v η1 Q a b c d)⟩
theorem tO_frame {f : FO} {π η : Env} {τ σ : L2.St} {as : List Addr} {H Hs : Hp} {r : Res Opv} {Q : VK} (hR : Rep M.G (π ++ η) (τ ++ σ) as H Hs) (hl : τ.length = π.length) (hf : f η = some r)
    (hp : match r with
      | .ok o η' => ∀ v as' H' Hs', Rep M.G (π ++ (o.p :: η')) (τ ++ (some v :: σ)) as' H' Hs' → o.lnk σ v → Ext as H Hs as' H' Hs' → Q v H'
      | .exc c p η' => PostX M.G W σ as H Hs c p η') : tO M W f σ H Q := by
  obtain ⟨a1, a2, rfl, p, q⟩ := hR.sub hl
  have off : ∀ a ∈ a1, Hs a = none := fun a ha => hR.off a (by simp [ha])
  refine ⟨η, a2, Hs, r, q, hf, ?_⟩
  cases r with
  | ok o η' =>
    intro v as' H' Hs' hR' hk hx
    obtain ⟨r1, r2⟩ := Rep.frame p hR.nd off hR' hx
    exact hp v _ H' Hs' r1 hk r2
  | exc c pp η' =>
    intro v dx as' H' Hs' hR' hX hx
    exact hp v dx as' H' Hs' hR' hX (hx.more a1)
theorem tT_frame {f : FT} {π η : Env} {τ σ : L2.St} {as : List Addr} {H Hs : Hp} {r : Res Bool} {Q : Bool → Hp → Prop} (hR : Rep M.G (π ++ η) (τ ++ σ) as H Hs) (hl : τ.length = π.length) (hf : f η = some r)
    (hp : match r with
      | .ok b η' => ∀ as' H' Hs', Rep M.G (π ++ η') (τ ++ σ) as' H' Hs' → Ext as H Hs as' H' Hs' → Q b H'
      | .exc c p η' => PostX M.G W σ as H Hs c p η') : tT M W f σ H Q := by
  obtain ⟨a1, a2, rfl, p, q⟩ := hR.sub hl
  have off : ∀ a ∈ a1, Hs a = none := fun a ha => hR.off a (by simp [ha])
  refine ⟨η, a2, Hs, r, q, hf, ?_⟩
  cases r with
  | ok o η' =>
    intro as' H' Hs' hR' hx
    obtain ⟨r1, r2⟩ := Rep.frame p hR.nd off hR' hx
    exact hp _ H' Hs' r1 r2
  | exc c pp η' =>
    intro v dx as' H' Hs' hR' hX hx
    exact hp v dx as' H' Hs' hR' hX (hx.more a1)
end

/-! ### slots forgotten -/
def wipeE (η : Env) : List Nat → Env
  | [] => η
  | v :: vs => (wipeE η vs).set v none
theorem wipeE_length (η : Env) : ∀ vs : List Nat, (wipeE η vs).length = η.length
  | [] => rfl
  | v :: vs => by unfold wipeE; rw [List.length_set, wipeE_length η vs]
/-- one slot forgotten, whatever stands there -/
theorem Rep.drop1 {G : Gc} {π η : Env} {τ σ : L2.St} {as : List Addr} {H Hs : Hp} (h : Rep G (π ++ η) (τ ++ σ) as H Hs) (hl : τ.length = π.length) (i : Nat) (u : Option V) : ∃ as', Rep G (π ++ η.set i none) (τ ++ σ.set i u) as' H Hs ∧ ∀ a ∈ as', a ∈ as := by
  by_cases hi : i < η.length
  · obtain ⟨b1, b2, rfl, p, q⟩ := h.sub hl
    obtain ⟨a1, a2, a3, e, r⟩ := RepO.store i none u [] q.env hi rfl
    subst e
    have m : ∀ a ∈ a1 ++ ([] ++ a3), a ∈ a1 ++ (a2 ++ a3) := fun a ha => by
      have : a ∈ a1 ∨ a ∈ a3 := by simpa using ha
      rcases this with z | z <;> simp [z]
    refine ⟨b1 ++ (a1 ++ ([] ++ a3)), ⟨h.le, p.join r, ?_, fun a ha => ?_⟩, fun a ha => ?_⟩
    · refine List.Nodup.sublist ?_ h.nd
      exact List.Sublist.append (List.Sublist.refl _) (List.Sublist.append (List.Sublist.refl _) (by rw [List.nil_append]; exact List.sublist_append_right _ _))
    · refine h.off a ?_
      rcases List.mem_append.mp ha with z | z
      · simp [z]
      · exact List.mem_append_right _ (m a z)
    · rcases List.mem_append.mp ha with z | z
      · simp [z]
      · exact List.mem_append_right _ (m a z)
  · have l2 : η.length = σ.length := by
      have := h.env.length
      simp only [List.length_append] at this
      omega
    rw [List.set_eq_of_length_le (by omega), List.set_eq_of_length_le (by omega)]
    exact ⟨as, h, fun a ha => ha⟩
theorem Rep.wipe {G : Gc} {π : Env} {τ : L2.St} {H Hs : Hp} (hl : τ.length = π.length) : ∀ (vs : List Nat) {η : Env} {σ : L2.St} {as : List Addr}, Rep G (π ++ η) (τ ++ σ) as H Hs → ∃ as', Rep G (π ++ wipeE η vs) (τ ++ L2.wipe σ vs) as' H Hs ∧ ∀ a ∈ as', a ∈ as
  | [], η, σ, as, h => ⟨as, h, fun _ z => z⟩
  | v :: vs, η, σ, as, h => by
    obtain ⟨as1, r1, m1⟩ := Rep.wipe hl vs h
    obtain ⟨as2, r2, m2⟩ := r1.drop1 hl v none
    exact ⟨as2, r2, fun a ha => m1 a (m2 a ha)⟩
/-- forgotten slots need nothing -/
theorem Rep.unwipe {G : Gc} {π : Env} {τ : L2.St} {H Hs : Hp} (hl : τ.length = π.length) : ∀ (vs : List Nat) {η : Env} {σ : L2.St} {as : List Addr}, Rep G (π ++ η) (τ ++ L2.wipe σ vs) as H Hs → (∀ i ∈ vs, ∀ x, η[i]? ≠ some (some x)) → Rep G (π ++ η) (τ ++ σ) as H Hs
  | [], η, σ, as, h, _ => h
  | v :: vs, η, σ, as, h, hn => by
    refine Rep.unwipe hl vs ?_ fun i hi => hn i (List.mem_cons_of_mem _ hi)
    have h : Rep G (π ++ η) (τ ++ (L2.wipe σ vs).set v none) as H Hs := h
    by_cases hv : v < (L2.wipe σ vs).length
    · obtain ⟨b1, b2, rfl, p, q⟩ := h.sub hl
      have lq : η.length = (L2.wipe σ vs).length := by rw [q.env.length, List.length_set]
      have ne : η[v]? = some none := by
        have hx := hn v (List.mem_cons_self ..)
        have : v < η.length := by omega
        rw [List.getElem?_eq_getElem this] at hx ⊢
        cases ez : η[v] with
        | none => rfl
        | some x => exact absurd (by rw [ez]) (hx x)
      obtain ⟨a1, a2, a3, e, r⟩ := RepO.store v none ((L2.wipe σ vs)[v]) [] q.env (by omega) rfl
      have es : η.set v none = η := by
        refine List.ext_getElem? fun j => ?_
        by_cases hj : j = v
        · subst hj
          rw [List.getElem?_set_self (by omega), ne]
        · rw [List.getElem?_set_ne (Ne.symm hj)]
      have et : ((L2.wipe σ vs).set v none).set v ((L2.wipe σ vs)[v]) = L2.wipe σ vs := by
        rw [List.set_set]
        exact List.set_getElem_self hv
      rw [es, et] at r
      subst e
      -- the owned part does not change: nothing stood there
      exact ⟨h.le, p.join (by
        have key : ∀ {η : Env} {σ : L2.St} {as : List Addr} {i : Nat} {u : Option V}, RepO G H Hs η σ as → η[i]? = some none → RepO G H Hs η (σ.set i u) as := by
          intro η
          induction η with
          | nil => intro σ as i u _ e; simp at e
          | cons z η ih =>
            intro σ as i u h e
            cases z with
            | none =>
              obtain ⟨s, σ', rfl, r⟩ := h
              cases i with
              | zero => exact ⟨u, σ', rfl, r⟩
              | succ i => exact ⟨s, σ'.set i u, rfl, ih r (by simpa using e)⟩
            | some x =>
              obtain ⟨v, σ', b1, b2, rfl, rfl, rv, r⟩ := h
              cases i with
              | zero => simp at e
              | succ i => exact ⟨v, σ'.set i u, b1, b2, rfl, rfl, rv, ih r (by simpa using e)⟩
        have := key (u := (L2.wipe σ vs)[v]) q.env ne
        rwa [et] at this), h.nd, h.off⟩
    · rw [List.set_eq_of_length_le (by omega)] at h
      exact h
theorem wipeE_none (η : Env) : ∀ (vs : List Nat) (i : Nat), i ∈ vs → ∀ x, (wipeE η vs)[i]? ≠ some (some x)
  | v :: vs, i, hi, x => by
    unfold wipeE
    by_cases e : v = i
    · subst e
      by_cases hv : v < (wipeE η vs).length
      · rw [List.getElem?_set_self hv]
        intro z
        cases z
      · rw [List.getElem?_eq_none (by simpa using hv)]
        intro z
        cases z
    · rw [List.getElem?_set_ne e]
      rcases List.mem_cons.mp hi with z | z
      · exact absurd z.symm e
      · exact wipeE_none η vs i z x
theorem wipe_get (σ : L2.St) : ∀ (vs : List Nat) (i : Nat), i ∉ vs → (L2.wipe σ vs)[i]? = σ[i]?
  | [], i, _ => rfl
  | v :: vs, i, hi => by
    unfold L2.wipe
    simp only [List.mem_cons, not_or] at hi
    rw [List.getElem?_set_ne (Ne.symm hi.1), wipe_get σ vs i hi.2]
theorem wipe_at (σ : L2.St) : ∀ (vs : List Nat) (i : Nat), i ∈ vs → i < σ.length → (L2.wipe σ vs)[i]? = some none
  | v :: vs, i, hi, hl => by
    unfold L2.wipe
    by_cases e : v = i
    · subst e
      rw [List.getElem?_set_self (by rw [wipe_length]; exact hl)]
    · rw [List.getElem?_set_ne e]
      rcases List.mem_cons.mp hi with z | z
      · exact absurd z.symm e
      · exact wipe_at σ vs i z hl
theorem wipe_eq {σ σ' : L2.St} {vs : List Nat} (hl : σ.length = σ'.length) (h : ∀ i, i < σ.length → i ∉ vs → σ[i]? = σ'[i]?) : L2.wipe σ vs = L2.wipe σ' vs := by
  refine List.ext_getElem? fun i => ?_
  by_cases hi : i < σ.length
  · by_cases hv : i ∈ vs
    · rw [wipe_at σ vs i hv hi, wipe_at σ' vs i hv (by omega)]
    · rw [wipe_get σ vs i hv, wipe_get σ' vs i hv, h i hi hv]
  · rw [List.getElem?_eq_none (by rw [wipe_length]; omega), List.getElem?_eq_none (by rw [wipe_length]; omega)]
theorem wipe_wipe (σ : L2.St) (vs : List Nat) : L2.wipe (L2.wipe σ vs) vs = L2.wipe σ vs := by
  refine wipe_eq (wipe_length σ vs) fun i hi hv => wipe_get σ vs i hv

/-! ### appending to an owned list -/
theorem Rep.append {G : Gc} {π : Env} {τ : L2.St} {z : Val} {zv : V} {acc : List Val} {a : Addr} {η : Env} {σ : L2.St} {as : List Addr} {H Hs : Hp} (h : Rep G (π ++ (some (.ol acc) :: some z :: η)) (τ ++ (some (.ref a) :: some zv :: σ)) as H Hs) (hl : τ.length = π.length) :
    ∃ vs, H a = some (.lst vs) ∧ vs.length = acc.length ∧ ∃ as', Rep G (π ++ (some (.ol (acc ++ [z])) :: η)) (τ ++ (some (.ref a) :: σ)) as' (upd H a (.lst (vs ++ [zv]))) Hs ∧ Ext as H Hs as' (upd H a (.lst (vs ++ [zv]))) Hs := by
  obtain ⟨b1, b2, rfl, p, q⟩ := h.sub hl
  obtain ⟨ra, σ'', c3, c4, e2, rfl, rl, q1⟩ := q.env
  obtain ⟨e2h, rfl⟩ := List.cons.inj e2
  obtain rfl := Option.some.inj e2h
  obtain ⟨zv', σ', c1, c5, e1, rfl, rz, q2⟩ := q1
  obtain ⟨e1h, rfl⟩ := List.cons.inj e1
  obtain rfl := Option.some.inj e1h
  simp only [RepV] at rl
  obtain ⟨a', vs, bs, e3, rfl, ha, rs⟩ := rl
  obtain rfl := V.ref.inj e3
  have nd := h.nd
  -- every other owned address differs from a
  have na : ∀ b, b ∈ b1 ∨ b ∈ c1 ∨ b ∈ bs ∨ b ∈ c5 → b ≠ a := by
    intro b hb e
    subst e
    have := nd
    have n1 : b ∉ b1 := fun z => (List.nodup_append.mp this).2.2 b z b (by simp) rfl
    have n2 := (List.nodup_cons.mp (show (b :: (bs ++ (c1 ++ c5))).Nodup from (List.nodup_append.mp this).2.1)).1
    simp only [List.mem_append, not_or] at n2
    rcases hb with z | z | z | z
    · exact n1 z
    · exact n2.2.1 z
    · exact n2.1 z
    · exact n2.2.2 z
  have st : ∀ b, b ∈ b1 ∨ b ∈ c1 ∨ b ∈ bs ∨ b ∈ c5 → ∀ o, H b = some o → upd H a (.lst (vs ++ [zv])) b = some o := fun b hb o e => by
    rw [upd_ne (na b hb)]
    exact e
  have lk : ∀ {xs : List Val} {ws : List V} {l1 : List Addr} {x : Val} {w : V} {l2 : List Addr} {H Hs : Hp}, RepVs G H Hs xs ws l1 → RepV G H Hs x w l2 → RepVs G H Hs (xs ++ [x]) (ws ++ [w]) (l1 ++ l2) := by
    intro xs
    induction xs with
    | nil =>
      intro ws l1 x w l2 H Hs r1 r2
      obtain ⟨rfl, rfl⟩ := RepVs.nil_iff.mp r1
      have := RepVs.cons (G := G) (H := H) (Hs := Hs) r2 (RepVs.nil_iff.mpr ⟨rfl, rfl⟩)
      simpa using this
    | cons y xs ih =>
      intro ws l1 x w l2 H Hs r1 r2
      obtain ⟨u, us, m1, m2, rfl, rfl, p1, p2⟩ := r1.uncons
      have := RepVs.cons p1 (ih p2 r2)
      simpa [List.append_assoc] using this
  have len : vs.length = acc.length := by
    have : ∀ {xs : List Val} {ws : List V} {l1 : List Addr}, RepVs G H Hs xs ws l1 → ws.length = xs.length := by
      intro xs
      induction xs with
      | nil => intro ws l1 r; obtain ⟨rfl, _⟩ := RepVs.nil_iff.mp r; rfl
      | cons x xs ih => intro ws l1 r; obtain ⟨u, us, m1, m2, rfl, rfl, p1, p2⟩ := r.uncons; simp [ih p2]
    exact this rs
  have hsa : Hs a = none := h.off a (by simp)
  refine ⟨vs, ha, len, b1 ++ ((a :: (bs ++ c1)) ++ c5), ⟨fun b o e => ?_, RepO.join (p.stay (fun b hb o e => st b (.inl hb) o e) Le.refl) ?_, ?_, fun b hb => ?_⟩, ⟨fun b o e nb => ?_, Sub.refl, fun b z => .inl z, fun b hb => .inl ?_⟩⟩
  · have hb : b ≠ a := fun z => by
      subst z
      rw [hsa] at e
      cases e
    rcases h.le b o e with z | ⟨ob, kvs, z1, z2⟩
    · exact .inl (by rw [upd_ne hb]; exact z)
    · exact .inr ⟨ob, kvs, z1, by rw [upd_ne hb]; exact z2⟩
  · refine ⟨.ref a, σ, a :: (bs ++ c1), c5, rfl, rfl, ?_, q2.stay (fun b hb o e => st b (.inr (.inr (.inr hb))) o e) Le.refl⟩
    simp only [RepV]
    exact ⟨a, vs ++ [zv], bs ++ c1, rfl, rfl, upd_same, lk (rs.stay (fun b hb o e => st b (.inr (.inr (.inl hb))) o e) Le.refl) (rz.stay (fun b hb o e => st b (.inr (.inl hb)) o e) Le.refl)⟩
  · simpa [List.append_assoc] using nd
  · refine h.off b ?_
    simp only [List.mem_append, List.mem_cons] at hb ⊢
    rcases hb with z | (z | z | z) | z <;> simp [z]
  · rw [upd_ne (fun z => nb (by simp [z]))]
    exact e
  · simp only [List.mem_append, List.mem_cons] at hb ⊢
    rcases hb with z | (z | z | z) | z <;> simp [z]
end Wp
end
section
set_option Elab.async false
set_option linter.all false
set_option maxRecDepth 100000
/-! WpJ: list comprehensions, the rule. -/
namespace Wp
open PySem PySem.Spec PyProof.Rows L2

def loopC (n : Nat) (vs : List Nat) (g : FG) (ft : FT) (fe : FO) : List Val → List Val → FO
  | [], acc, η => okR (.pend (.ol acc)) η
  | y :: ys, acc, η => match g y η with
    | none => none
    | some η1 => if η1.length = n then (match ft η1 with
      | some (.ok b η2) => if b = true then (match fe η2 with
          | some (.ok o η3) => (match esc1 o η3 with
            | some (z, η4) => if acc.length < sizeLine then loopC n vs g ft fe ys (acc ++ [z]) (wipeE η4 vs) else none
            | none => none)
          | _ => none)
        else loopC n vs g ft fe ys acc (wipeE η2 vs)
      | _ => none) else none
def fLc (n : Nat) (vs : List Nat) (f : FI) (g : FG) (ft : FT) (fe : FO) : FO := fun η => bindR (f η) fun ys η1 => if η1.length = n then loopC n vs g ft fe ys [] (wipeE η1 vs) else none
def kpB (n : Nat) (vs : List Nat) : List Nat := (List.range n).filter fun i => !vs.contains i
theorem kpB_mem {n : Nat} {vs : List Nat} {i : Nat} : i ∈ kpB n vs ↔ i < n ∧ i ∉ vs := by
  unfold kpB
  simp
theorem loopC_ok {n : Nat} {vs : List Nat} {g : FG} {ft : FT} {fe : FO} : ∀ {ys acc : List Val} {η : Env} {r : Res Opv}, loopC n vs g ft fe ys acc η = some r → ∃ xs η', r = .ok (.pend (.ol xs)) η'
  | [], acc, η, r, h => ⟨acc, η, (Option.some.inj h).symm⟩
  | y :: ys, acc, η, r, h => by
    simp only [loopC] at h
    split at h
    · cases h
    · split at h
      · split at h
        · split at h
          · split at h
            · split at h
              · split at h
                · exact loopC_ok h
                · cases h
              · cases h
            · cases h
          · exact loopC_ok h
        · cases h
      · cases h

section
variable {M : Md} {S : Sc} {k : Nat} {W : WX} {X : Cx} {pos : Pos}
theorem lc_sound {vs : List Nat} {n : Nat} {wi : TI} {f : FI} {g : FG} {ft : FT} {fe : FO} (hwi : ∀ η σ as H Hs r R, Rep M.G η σ as H Hs → f η = some r → PostI M.G W σ as H Hs R r → wi σ H R)
    {η : Env} {σ : L2.St} {as : List Addr} {H Hs : Hp} {r : Res Opv} {Q : VK} (hR : Rep M.G η σ as H Hs) (hf : fLc n vs f g ft fe η = some r) (hp : PostO M.G W σ as H Hs Q r) :
    tLc wi (tG M (kpB n vs) g) (tT M WF ft) (tO M WF fe) vs σ H Q := by
  unfold tLc
  rcases bindR_inv hf with ⟨ys, η1, e1, e2⟩ | ⟨c, p, η1, e1, rfl⟩
  rotate_left
  · exact hwi η σ as H Hs _ _ hR e1 hp
  refine hwi η σ as H Hs _ _ hR e1 fun J π τ C as1 H1 Hs1 it c1 r1 x1 D hD => ?_
  by_cases hn : η1.length = n
  rotate_left
  · rw [if_neg hn] at e2
    cases e2
  rw [if_pos hn] at e2
  have hl : τ.length = π.length := by rw [it.lp, it.lt]
  have hσ : σ.length = n := by
    have := r1.env.length
    simp only [List.length_append] at this
    omega
  obtain ⟨xs, ηf, rfl⟩ := loopC_ok e2
  -- the start
  have start : ∃ as2, Rep M.G (π ++ (some (.ol []) :: wipeE η1 vs)) (τ ++ (some (V.ref D) :: L2.wipe σ vs)) as2 (upd H1 D (.lst [])) Hs1 ∧ Ext as1 H1 Hs1 as2 (upd H1 D (.lst [])) Hs1 := by
    obtain ⟨as3, r3, m3⟩ := Rep.wipe hl vs r1
    obtain ⟨b1, b2, rfl, p, q⟩ := r3.sub hl
    obtain ⟨q2, x2⟩ := q.push (x := .ol []) (v := .ref D) (b := [D]) (H' := upd H1 D (.lst [])) (fun b o e => by rw [upd_ne (ne_of_none e hD)]; exact e) (by simp only [RepV]; exact ⟨D, [], [], rfl, rfl, upd_same, RepVs.nil_iff.mpr ⟨rfl, rfl⟩⟩) (by simp) (by simpa using hD)
    obtain ⟨r4, x4⟩ := Rep.frame p r3.nd (fun a ha => r3.off a (by simp [ha])) q2 x2
    exact ⟨_, r4, (Ext.refl.less m3).trans x4⟩
  obtain ⟨as2, r2, x2⟩ := start
  refine ⟨fun i m H2 => m = ys.length - i ∧ i ≤ ys.length ∧ ∃ (acc : List Val) (η2 : Env) (as2 : List Addr) (Hs2 : Hp), Rep M.G (π.drop i ++ (some (Val.ol acc) :: η2)) (τ.drop i ++ (some (V.ref D) :: L2.wipe σ vs)) as2 H2 Hs2 ∧ C as2 H2 Hs2 ∧ loopC n vs g ft fe (ys.drop i) acc η2 = some (.ok (.pend (.ol xs)) ηf) ∧ (∀ j ∈ vs, ∀ x, η2[j]? ≠ some (some x)) ∧ Ext as H Hs as2 H2 Hs2,
    ⟨ys.length, by simp, Nat.zero_le _, [], wipeE η1 vs, as2, Hs1, r2, it.stable _ _ _ _ _ _ c1 x2, e2, wipeE_none η1 vs, x1.trans x2⟩, ?_⟩
  rintro i m H2 ⟨rfl, hi, acc, η2, as2, Hs2, r2, c2, e3, hnone, x2⟩
  by_cases hlt : i < ys.length
  rotate_left
  · left
    obtain rfl : i = ys.length := by omega
    refine ⟨it.stop as2 H2 Hs2 r2.le c2, ?_⟩
    rw [List.drop_eq_nil_of_le (Nat.le_refl _)] at e3
    simp only [loopC, okR, Option.some.injEq, Res.ok.injEq, Opv.pend.injEq, Val.ol.injEq] at e3
    obtain ⟨rfl, rfl⟩ := e3
    rw [List.drop_eq_nil_of_le (by rw [it.lp]; exact Nat.le_refl _), List.drop_eq_nil_of_le (by rw [it.lt]; exact Nat.le_refl _)] at r2
    exact hp (V.ref D) as2 H2 Hs2 (Rep.unwipe (π := [some (Val.ol acc)]) (τ := [some (V.ref D)]) rfl vs r2 hnone) trivial x2
  refine .inr ⟨it.go i as2 H2 Hs2 r2.le c2 hlt, fun H' => ∃ (acc : List Val) (η' : Env) (as' : List Addr) (Hs' : Hp), Rep M.G (π.drop (i + 1) ++ (some (Val.ol acc) :: η')) (τ.drop (i + 1) ++ (some (V.ref D) :: L2.wipe σ vs)) as' H' Hs' ∧ C as' H' Hs' ∧ loopC n vs g ft fe (ys.drop (i + 1)) acc η' = some (.ok (.pend (.ol xs)) ηf) ∧ (∀ j ∈ vs, ∀ x, η'[j]? ≠ some (some x)) ∧ Ext as H Hs as' H' Hs',
    fun H' n => ⟨ys.length - (i + 1), by omega, rfl, hlt, n⟩, fun x H3 hy => ?_⟩
  rw [List.drop_eq_getElem_cons hlt] at e3
  simp only [loopC] at e3
  cases eg : g ys[i] η2 with
  | none =>
    rw [eg] at e3
    cases e3
  | some η3 =>
    rw [eg] at e3
    simp only at e3
    by_cases hn3 : η3.length = n
    rotate_left
    · rw [if_neg hn3] at e3
      cases e3
    rw [if_pos hn3] at e3
    obtain ⟨as3, r3, x3⟩ := it.next hlt r2 c2 hy
    have hl' : (τ.drop (i + 1) ++ [some (V.ref D)]).length = (π.drop (i + 1) ++ [some (Val.ol acc)]).length := by rw [List.length_append, List.length_append, List.length_drop, List.length_drop, it.lp, it.lt]; rfl
    refine ⟨π.drop (i + 1) ++ [some (Val.ol acc)], τ.drop (i + 1) ++ [some (V.ref D)], η2, as3, Hs2, ys[i], η3, by simpa using r3, hl', eg, fun σ4 as4 r4 m4 k4 => ?_⟩
    have l4 : σ4.length = n := by
      have := r4.env.length
      simp only [List.length_append] at this hl'
      omega
    have hw : L2.wipe σ4 vs = L2.wipe σ vs := by
      rw [← wipe_wipe σ vs]
      refine wipe_eq (by rw [wipe_length]; omega) fun j hj hv => ?_
      exact k4 j (kpB_mem.mpr ⟨by omega, hv⟩)
    refine ⟨hw, ?_⟩
    have c4 : C as4 H3 Hs2 := it.stable _ _ _ _ _ _ c2 (x3.less m4)
    have x4 : Ext as H Hs as4 H3 Hs2 := x2.trans (x3.less m4)
    cases et : ft η3 with
    | none =>
      rw [et] at e3
      cases e3
    | some rt =>
      cases rt with
      | exc c p η4 =>
        rw [et] at e3
        cases e3
      | ok b η4 =>
        rw [et] at e3
        simp only at e3
        refine tT_frame r4 hl' et fun as5 H5 Hs5 r5 x5 => ?_
        have c5 : C as5 H5 Hs5 := it.stable _ _ _ _ _ _ c4 x5
        cases b with
        | false =>
          simp only [Bool.false_eq_true, if_false] at e3 ⊢
          obtain ⟨as6, r6, m6⟩ := Rep.wipe hl' vs r5
          rw [hw] at r6
          exact ⟨acc, wipeE η4 vs, as6, Hs5, by simpa using r6, it.stable _ _ _ _ _ _ c5 (Ext.refl.less m6), e3, wipeE_none η4 vs, (x4.trans x5).less m6⟩
        | true =>
          simp only [if_true] at e3 ⊢
          cases ee : fe η4 with
          | none =>
            rw [ee] at e3
            cases e3
          | some re =>
            cases re with
            | exc c p η5 =>
              rw [ee] at e3
              cases e3
            | ok o η5 =>
              rw [ee] at e3
              simp only at e3
              refine tO_frame r5 hl' ee fun v as6 H6 Hs6 r6 l6 x6 => ?_
              cases es : esc1 o η5 with
              | none =>
                rw [es] at e3
                cases e3
              | some q =>
                obtain ⟨z, η6⟩ := q
                rw [es] at e3
                simp only at e3
                by_cases hz : acc.length < sizeLine
                rotate_left
                · rw [if_neg hz] at e3
                  cases e3
                rw [if_pos hz] at e3
                obtain ⟨as7, Hs7, r7, x7⟩ := esc1_ok r6 hl' l6 es
                have r7' : Rep M.G (π.drop (i + 1) ++ (some (Val.ol acc) :: some z :: η6)) (τ.drop (i + 1) ++ (some (V.ref D) :: some v :: σ4)) as7 H6 Hs7 := by simpa using r7
                have hl1 : (τ.drop (i + 1)).length = (π.drop (i + 1)).length := by rw [List.length_drop, List.length_drop, it.lp, it.lt]
                obtain ⟨us, hD', lus, as8, r8, x8⟩ := r7'.append hl1
                refine ⟨us, hD', by omega, acc ++ [z], wipeE η6 vs, ?_⟩
                have hl2 : (τ.drop (i + 1) ++ [some (V.ref D)]).length = (π.drop (i + 1) ++ [some (Val.ol (acc ++ [z]))]).length := by rw [List.length_append, List.length_append, hl1]; rfl
                have r8' : Rep M.G ((π.drop (i + 1) ++ [some (Val.ol (acc ++ [z]))]) ++ η6) ((τ.drop (i + 1) ++ [some (V.ref D)]) ++ σ4) as8 (upd H6 D (.lst (us ++ [v]))) Hs7 := by simpa using r8
                obtain ⟨as9, r9, m9⟩ := Rep.wipe hl2 vs r8'
                rw [hw] at r9
                have xx := (x5.trans (x6.trans (x7.trans x8))).less m9
                exact ⟨as9, Hs7, by simpa using r9, it.stable _ _ _ _ _ _ c4 xx, e3, wipeE_none η6 vs, x4.trans xx⟩

/-! ### the block's context -/
def Sc.blk (S : Sc) (scope : Scope) : Sc := ⟨S.N, relS scope S.sc, fun x => scope.names.lookup x == some .cell⟩
theorem Cok.blk (ok : Cok M S k W X) (s : Shared) (H : Hp) (scope : Scope) (C : Addr) (cl : List (Str × Addr)) (fp : List Addr) : Cok M (S.blk scope) k WF (X.blk s H scope (compEnvC scope cl C X.env) fp) := by
  refine ⟨ok.md, ok.N, ?_, fun x h => h, ok.calm, ok.nd, ok.gd, ok.room, ?_, PassesOwn.never⟩
  · show relabel scope X.env = relS scope S.sc
    rw [← ok.sc]
    rfl
  · rintro u s' ⟨a, B, sI, pins, σ, H, cls, d, e, I, nb, up, sky, na, os, ag, w⟩
    exact w
def OkTs (M : Md) (X : Cx) (W : WX) (ifs : List Expr) (f : FT) : Prop :=
  ∃ t, PTs X ifs t ∧ ∀ η σ as H Hs r Q, Rep M.G η σ as H Hs → f η = some r → PostT M.G W σ as H Hs Q r → t σ H Q
theorem OkTs.canon {ifs : List Expr} {f : FT} (h : OkTs M X W ifs f) : PTs X ifs (tT M W f) := by
  obtain ⟨t, ht, hh⟩ := h
  exact ⟨fun pins s σ H Q I ⟨η, as, Hs, r, a, b, c⟩ => ht.run pins s σ H Q I (hh η σ as H Hs r Q a b c)⟩
def fYes : FT := fun η => okR true η
theorem okTs_nil : OkTs M X W [] fYes := by
  refine ⟨_, pts_nil, fun η σ as H Hs r Q hR hf hp => ?_⟩
  obtain rfl : r = .ok true η := (Option.some.inj hf).symm
  exact hp as H Hs hR Ext.refl
theorem okTs_one {c : Expr} {f : FT} (h : OkT M X W c f) : OkTs M X W [c] f := by
  obtain ⟨t, ht, hh⟩ := h
  exact ⟨t, pts_one ht, hh⟩
/-- a block's parts, in each of its contexts -/
def OkBk (M : Md) (S : Sc) (k : Nat) (scope : Scope) (vs : List Nat) (tg : Expr) (ifs : List Expr) (elt : Expr) (g : FG) (ft : FT) (fe : FO) : Prop :=
  ∀ X', Cok M (S.blk scope) k WF X' → OkG M X' (kpB S.N.length vs) tg g ∧ OkTs M X' WF ifs ft ∧ OkO M X' WF elt fe
theorem ok_lc {elt tg iter : Expr} {ifs : List Expr} {scope : Scope} {own : List (Str × Nat)} {f : FI} {g : FG} {ft : FT} {fe : FO} (ok : Cok M S k W X) (hi : OkI M X W tg iter f) (hb : blkC S.N S.sc scope own = true) (hk : OkBk M S k scope (own.map (·.2)) tg ifs elt g ft fe)
    (hs : noSet iter = true) : OkO M X W (.ListComp elt [⟨tg, iter, ifs, 0⟩] scope pos) (fLc S.N.length (own.map (·.2)) f g ft fe) := by
  obtain ⟨wi, hwi, hwh⟩ := hi
  refine ⟨_, pe_lc (own := own) ok.calm (by rw [ok.N]; exact ok.nd) hwi (by rw [ok.N, ok.sc]; exact blkOk_by hb) (fun s H C cl fp => (hk _ (ok.blk s H scope C cl fp)).1.canon) (fun s H C cl fp => (hk _ (ok.blk s H scope C cl fp)).2.1.canon) (fun s H C cl fp => (hk _ (ok.blk s H scope C cl fp)).2.2.canon) (set_no hs), fun η σ as H Hs r Q hR hf hp => ?_⟩
  exact lc_sound hwh hR hf hp
/-- y = [..] -/
theorem ok_setLc {i : Nat} {y : Str} {py : Pos} {kp : List Nat} {elt tg iter : Expr} {ifs : List Expr} {scope : Scope} {own : List (Str × Nat)} {f : FI} {g : FG} {ft : FT} {fe : FO} {spos : Pos} (ok : Cok M S k W X) (hy : S.N[i]? = some y) (hyl : S.sc.names.lookup y = some .local) (hkp : i ∉ kp)
    (hkd : S.sc.kind = .function) (hln : (py.line == pos.line) = true) (hna : (scope.names.any fun (n, k) => n == y && (k == .local || k == .cell)) = false)
    (hi : OkI M X W tg iter f) (hb : blkC S.N S.sc scope own = true) (hk : OkBk M S k scope (own.map (·.2)) tg ifs elt g ft fe) (hs : noSet iter = true) :
    OkS M X W kp (.Assign [.Name y py] (.ListComp elt [⟨tg, iter, ifs, 0⟩] scope pos) spos) (fSet i (fLc S.N.length (own.map (·.2)) f g ft fe)) := by
  obtain ⟨wi, hwi, hwh⟩ := hi
  refine ⟨_, ps_setLc (i := i) (own := own) ok.calm (by rw [ok.N]; exact ok.nd) (by rw [ok.N]; exact hy) (by rw [ok.sc]; exact hyl) (sw_true (by rw [ok.sc]; exact hkd) (by rw [ok.sc]; exact hyl) hln hna) hwi (by rw [ok.N, ok.sc]; exact blkOk_by hb) (fun s H C cl fp => (hk _ (ok.blk s H scope C cl fp)).1.canon) (fun s H C cl fp => (hk _ (ok.blk s H scope C cl fp)).2.1.canon) (fun s H C cl fp => (hk _ (ok.blk s H scope C cl fp)).2.2.canon) (set_no hs), fun η σ as H Hs r D hR hf hp => ?_⟩
  rcases bindR_inv hf with ⟨o, η1, e1, e2⟩ | ⟨c, p, η1, e1, rfl⟩
  · refine lc_sound hwh hR e1 fun v as' H' Hs' r1 l1 x1 => ?_
    cases e3 : esc1 o η1 with
    | none =>
      rw [e3] at e2
      cases e2
    | some q =>
      obtain ⟨y, η2⟩ := q
      rw [e3] at e2
      simp only at e2
      by_cases hl : i < η2.length
      · rw [if_pos hl] at e2
        obtain rfl : r = .ok .next (η2.set i (some y)) := (Option.some.inj e2).symm
        obtain ⟨as2, Hs2, r2, x2⟩ := esc1_ok (π := []) (τ := []) r1 rfl l1 e3
        obtain ⟨as3, r3, m3⟩ := Rep.store (i := i) r2 hl
        exact hp _ as3 H' Hs2 r3 ((x1.trans x2).less m3) (Kept.set hkp)
      · rw [if_neg hl] at e2
        cases e2
  · exact lc_sound hwh hR e1 (PostX.toS hp)
end
end Wp
end
section
set_option Elab.async false
set_option linter.all false
set_option maxRecDepth 100000
/-! WpK: a def, from its body. -/
namespace Wp
open PySem PySem.Spec PyProof.Rows L2

def theta (kp : List Nat) : Nat → Nat → Env → Env
  | _, 0, _ => []
  | i, n + 1, [] => none :: theta kp (i + 1) n []
  | i, n + 1, x :: η => (if kp.contains i then x else none) :: theta kp (i + 1) n η
theorem theta_ok {G : Gc} {H Hs : Hp} {kp : List Nat} : ∀ {n i : Nat} {η : Env} {σ : L2.St} {vs : List V} {as : List Addr}, RepO G H Hs η σ as → vs.length = n → n ≤ η.length → (∀ j v, vs[j]? = some v → i + j ∈ kp → σ[j]? = some (some v)) →
    ∃ as', as'.Sublist as ∧ RepO G H Hs (theta kp i n η) (vs.map some) as'
  | 0, i, η, σ, vs, as, h, hl, _, _ => by
    obtain rfl : vs = [] := List.length_eq_zero_iff.mp hl
    exact ⟨[], List.nil_sublist _, rfl, rfl⟩
  | n + 1, i, [], σ, vs, as, h, hl, hn, _ => by simp at hn
  | n + 1, i, none :: η, σ, [], as, h, hl, hn, hk => by simp at hl
  | n + 1, i, some x :: η, σ, [], as, h, hl, hn, hk => by simp at hl
  | n + 1, i, none :: η, σ, v :: vs, as, h, hl, hn, hk => by
    obtain ⟨s, σ', rfl, r⟩ := h
    obtain ⟨as', m, r'⟩ := theta_ok (i := i + 1) r (by simpa using hl) (by simpa using hn) fun j u e hj => by
      have := hk (j + 1) u (by simpa using e) (by rw [← Nat.add_assoc, Nat.add_right_comm]; exact hj)
      simpa using this
    refine ⟨as', m, ?_⟩
    have e : theta kp i (n + 1) (none :: η) = none :: theta kp (i + 1) n η := by simp [theta]
    rw [e]
    exact ⟨some v, _, rfl, r'⟩
  | n + 1, i, some x :: η, σ, v :: vs, as, h, hl, hn, hk => by
    obtain ⟨u, σ', a1, a2, rfl, rfl, rv, r⟩ := h
    obtain ⟨as', m, r'⟩ := theta_ok (i := i + 1) r (by simpa using hl) (by simpa using hn) fun j u e hj => by
      have := hk (j + 1) u (by simpa using e) (by rw [← Nat.add_assoc, Nat.add_right_comm]; exact hj)
      simpa using this
    by_cases hi : i ∈ kp
    · have hv := hk 0 v rfl hi
      have e : theta kp i (n + 1) (some x :: η) = some x :: theta kp (i + 1) n η := by
        have : kp.contains i = true := by simpa using hi
        simp [theta, hi]
      have hv : u = v := by simpa using hv
      subst hv
      rw [e]
      exact ⟨a1 ++ as', List.Sublist.append (List.Sublist.refl _) m, u, _, a1, as', rfl, rfl, rv, r'⟩
    · have e : theta kp i (n + 1) (some x :: η) = none :: theta kp (i + 1) n η := by simp [theta, hi]
      rw [e]
      exact ⟨as', m.trans (List.sublist_append_right _ _), some v, _, rfl, r'⟩
/-- a def as data: its parameters, its slots, the parameters that are never stored to, whether its answer stays its own -/
def semF (n len : Nat) (kp : List Nat) (raw : Bool) (fb : FS) : FF := fun xs => match fb (xs.map some ++ List.replicate (len - xs.length) none) with
  | some (.ok (.ret x) η') => if n ≤ η'.length then some (.ok (if raw then x else .sh x.d) (theta kp 0 n η')) else none
  | some (.ok .next η') => if n ≤ η'.length then some (.ok (.sh .non) (theta kp 0 n η')) else none
  | some (.exc c p η') => if n ≤ η'.length then some (.exc c p (theta kp 0 n η')) else none
  | _ => none
theorem RepO.blanks {G : Gc} {H Hs : Hp} : ∀ n : Nat, RepO G H Hs (List.replicate n none) (List.replicate n none) []
  | 0 => ⟨rfl, rfl⟩
  | n + 1 => ⟨none, _, rfl, RepO.blanks n⟩
section
variable {M : Md} {k : Nat} {N ps : List Str} {qual x : Str} {params : Arguments} {body : List Stmt} {scope : Scope} {dvs : List V} {kws : List (Str × V)} {f : Addr} {fd : FuncData} {kp : List Nat} {raw : Bool} {fb : FS}
theorem Rep.thetas {G : Gc} {x : Option Val} {v : Option V} {η : Env} {σ : L2.St} {vs : List V} {n : Nat} {as : List Addr} {H Hs : Hp} (r : Rep G (x :: η) (v :: σ) as H Hs) (hl : vs.length = n) (hn : n ≤ η.length) (hk : ∀ i ∈ kp, i < n) (k : Kept kp (start N vs) σ) : ∃ as', Rep G (x :: theta kp 0 n η) (v :: vs.map some) as' H Hs ∧ ∀ a ∈ as', a ∈ as := by
  obtain ⟨b1, b2, rfl, p, q⟩ := Rep.sub (π := [x]) (τ := [v]) r rfl
  obtain ⟨as', m, r'⟩ := theta_ok (kp := kp) (i := 0) q.env hl hn fun j u e hj => by
    have hj' : j ∈ kp := by simpa using hj
    rw [k j hj']
    unfold L2.start
    have hlt : j < vs.length := (List.getElem?_eq_some_iff.mp e).1
    rw [List.getElem?_append_left (by simpa using hlt), List.getElem?_map, e]
    rfl
  exact ⟨b1 ++ as', ⟨r.le, RepO.join (π := [x]) (τ := [v]) p r', r.nd.sublist (List.Sublist.append (List.Sublist.refl _) m), fun a ha => r.off a ((List.Sublist.append (List.Sublist.refl b1) m).subset ha)⟩, fun a ha => (List.Sublist.append (List.Sublist.refl b1) m).subset ha⟩
theorem fn_body (F : FunD M.K x qual params body scope dvs kws f fd) (S : FnScope N ps scope) (hkp : (kp.all fun i => decide (i < ps.length)) = true) (hb : ∀ W X, Cok M ⟨N, scope, fun _ => true⟩ k W X → OkB M X W kp body fb) :
    FnG M.prog M.w M.K M.mg M.base (k + 1) f fd ps (spD M ps.length (semF ps.length N.length kp raw fb)) := by
  have hkp' : ∀ i ∈ kp, i < ps.length := by simpa using hkp
  refine FunD.fnG F S (fun vs H Q E h => h.1) fun cdv A outer s H vs Q E gd hr h => ?_
  have ok : Cok M ⟨N, scope, fun _ => true⟩ k (fun cls d _ H => E cls d H) (cxOf (L2.CX M.prog M.w) M.prog M.w M.K M.mg M.base N qual scope f cdv A outer s H E) := by
    refine ⟨by cases M; rfl, rfl, rfl, fun _ _ => rfl, rfl, S.nd, gd, hr, takes_of rfl rfl rfl rfl, passes_of rfl⟩
  obtain ⟨t, ht, hh⟩ := hb _ _ ok
  refine ⟨t, ht, ?_⟩
  obtain ⟨hl, xs, as, Hs, r, rp, e, hp⟩ := h
  have lx : xs.length = vs.length := by simpa using rp.env.length
  have rp' : Rep M.G (xs.map some ++ List.replicate (N.length - xs.length) none) (start N vs) as H Hs := by
    unfold L2.start
    rw [lx]
    exact ⟨rp.le, by simpa using rp.env.join (RepO.blanks _), rp.nd, rp.off⟩
  unfold semF at e
  cases eb : fb (xs.map some ++ List.replicate (N.length - xs.length) none) with
  | none =>
    rw [eb] at e
    cases e
  | some rb =>
    rw [eb] at e
    refine hh _ _ as H Hs rb _ rp' eb ?_
    cases rb with
    | exc c p η' =>
      simp only at e
      by_cases hn : ps.length ≤ η'.length
      · rw [if_pos hn] at e
        obtain rfl := (Option.some.inj e).symm
        intro u dx σ' as' H' Hs' r1 hX x1 k1
        obtain ⟨as2, r2, m2⟩ := Rep.thetas r1 hl hn hkp' k1
        exact hp u dx as2 H' Hs' r2 hX (x1.less m2)
      · rw [if_neg hn] at e
        cases e
    | ok w η' =>
      cases w with
      | next =>
        simp only at e
        by_cases hn : ps.length ≤ η'.length
        · rw [if_pos hn] at e
          obtain rfl := (Option.some.inj e).symm
          intro σ' as' H' Hs' r1 x1 k1
          obtain ⟨as2, r2, m2⟩ := Rep.thetas (r1.push_sh (d := .non) (v := .non) (by simp only [RepD])) hl hn hkp' k1
          exact hp .non as2 H' Hs' r2 (x1.less m2)
        · rw [if_neg hn] at e
          cases e
      | brk => cases e
      | cont => cases e
      | ret x =>
        simp only at e
        by_cases hn : ps.length ≤ η'.length
        · rw [if_pos hn] at e
          obtain rfl := (Option.some.inj e).symm
          intro v σ' as' H' Hs' r1 x1 k1
          cases raw with
          | true =>
            obtain ⟨as2, r2, m2⟩ := Rep.thetas r1 hl hn hkp' k1
            exact hp v as2 H' Hs' r2 (x1.less m2)
          | false =>
            obtain ⟨as3, Hs3, r3, x3, _⟩ := r1.freeze0
            obtain ⟨as2, r2, m2⟩ := Rep.thetas r3 hl hn hkp' k1
            exact hp v as2 H' Hs3 r2 ((x1.trans x3).less m2)
        · rw [if_neg hn] at e
          cases e
end
end Wp
end
section
set_option Elab.async false
set_option linter.all false
set_option maxRecDepth 100000
/-! WpL: operators, comparisons. -/
namespace Wp
open PySem PySem.Spec PyProof.Rows L2

def P1 (G : Gc) (r : V → Hp → VK → Prop) (g : D → Option Val) : Prop := ∀ d x, g d = some x → ∀ v H Hs Q, Le Hs H → RepT G H Hs d v → FreshQ G H Hs Q x → r v H Q
def P2 (G : Gc) (r : V → V → Hp → VK → Prop) (g : D → D → Option Val) : Prop := ∀ d e x, g d e = some x → ∀ v u H Hs Q, Le Hs H → RepT G H Hs d v → RepT G H Hs e u → FreshQ G H Hs Q x → r v u H Q
def p1 (g : D → Option Val) : List D → Option Val
  | [d] => g d
  | _ => none
def p2 (g : D → D → Option Val) : List D → Option Val
  | [d, e] => g d e
  | _ => none
theorem RepTs.uncons {G : Gc} {H Hs : Hp} {d : D} {ds : List D} {vs : List V} (h : RepTs G H Hs (d :: ds) vs) : ∃ v ws, vs = v :: ws ∧ RepT G H Hs d v ∧ RepTs G H Hs ds ws := h
theorem RepTs.nil' {G : Gc} {H Hs : Hp} {vs : List V} (h : RepTs G H Hs [] vs) : vs = [] := h
theorem prim1 {G : Gc} {r : V → Hp → VK → Prop} {g : D → Option Val} (h : P1 G r g) : PrimOk G (fun vs H Q => ∀ x, vs = [x] → r x H Q) (p1 g) := fun ds x vs H Hs Q e s t q a ea => by
  rcases ds with _ | ⟨d, _ | ⟨_, _⟩⟩
  · cases e
  · obtain ⟨v, ws, rfl, t1, t2⟩ := t.uncons
    obtain rfl := t2.nil'
    obtain rfl : v = a := by simpa using ea
    exact h d x e v H Hs Q s t1 q
  · cases e
theorem prim2 {G : Gc} {r : V → V → Hp → VK → Prop} {g : D → D → Option Val} (h : P2 G r g) : PrimOk G (fun vs H Q => ∀ x y, vs = [x, y] → r x y H Q) (p2 g) := fun ds x vs H Hs Q e s t q a b ea => by
  rcases ds with _ | ⟨d, _ | ⟨d2, _ | ⟨_, _⟩⟩⟩
  · cases e
  · cases e
  · obtain ⟨v, ws, rfl, t1, t2⟩ := t.uncons
    obtain ⟨v2, ws2, rfl, t3, t4⟩ := t2.uncons
    obtain rfl := t4.nil'
    obtain ⟨rfl, rfl⟩ : v = a ∧ v2 = b := by simpa using ea
    exact h d d2 x e v v2 H Hs Q s t1 t3 q
  · cases e
/-- lists of argument values -/
theorem primN {G : Gc} {r : List V → Hp → VK → Prop} {g : D → Option Val} (h : P1 G (fun v => r [v]) g) : PrimOk G r (p1 g) := fun ds x vs H Hs Q e s t q => by
  rcases ds with _ | ⟨d, _ | ⟨_, _⟩⟩
  · cases e
  · obtain ⟨v, ws, rfl, t1, t2⟩ := t.uncons
    obtain rfl := t2.nil'
    exact h d x e v H Hs Q s t1 q
  · cases e
theorem primN2 {G : Gc} {r : List V → Hp → VK → Prop} {g : D → D → Option Val} (h : P2 G (fun v u => r [v, u]) g) : PrimOk G r (p2 g) := fun ds x vs H Hs Q e s t q => by
  rcases ds with _ | ⟨d, _ | ⟨d2, _ | ⟨_, _⟩⟩⟩
  · cases e
  · cases e
  · obtain ⟨v, ws, rfl, t1, t2⟩ := t.uncons
    obtain ⟨v2, ws2, rfl, t3, t4⟩ := t2.uncons
    obtain rfl := t4.nil'
    exact h d d2 x e v v2 H Hs Q s t1 t3 q
  · cases e

/-! ### new values -/
section
variable {G : Gc} {H Hs : Hp} {Q : VK}
theorem FreshQ.sh {d : D} {v : V} (q : FreshQ G H Hs Q (.sh d)) (h : RepD G Hs d v) : Q v H := q v [] H Sub.refl (RepV.sh_iff.mpr ⟨rfl, h⟩) List.nodup_nil (fun a ha => nomatch ha)
theorem FreshQ.bl {b : Bool} (q : FreshQ G H Hs Q (.sh (.bl b))) : Q (.bl b) H := q.sh (by simp only [RepD])
theorem FreshQ.int {i : Int} (q : FreshQ G H Hs Q (.sh (.int i))) : Q (.int i) H := q.sh (by simp only [RepD])
theorem FreshQ.str {i : Str} (q : FreshQ G H Hs Q (.sh (.str i))) : Q (.str i) H := q.sh (by simp only [RepD])
theorem FreshQ.non (q : FreshQ G H Hs Q (.sh .non)) : Q .non H := q.sh (by simp only [RepD])
theorem RepDs.shs {ds : List D} {vs : List V} (h : RepDs G Hs ds vs) (H : Hp) : RepVs G H Hs (ds.map .sh) vs [] := by
  induction ds generalizing vs with
  | nil =>
    rw [RepDs.nil_iff] at h
    exact RepVs.nil_iff.mpr ⟨h, rfl⟩
  | cons d ds ih =>
    obtain ⟨v, ws, rfl, p, q⟩ := h.uncons
    have := RepVs.cons (G := G) (H := H) (RepV.sh_iff.mpr ⟨rfl, p⟩) (ih q)
    simpa using this
theorem FreshQ.lst {ds : List D} {vs : List V} (q : FreshQ G H Hs Q (.ol (ds.map .sh))) (h : RepDs G Hs ds vs) (p : Addr) (np : H p = none) : Q (.ref p) (upd H p (.lst vs)) := by
  refine q (.ref p) [p] _ (fun b o e => by rw [upd_ne (ne_of_none e np)]; exact e) ?_ (by simp) (by simpa using np)
  simp only [RepV]
  exact ⟨p, vs, [], rfl, rfl, upd_same, h.shs _⟩
theorem FreshQ.tup {ds : List D} {vs : List V} (q : FreshQ G H Hs Q (.ot (ds.map .sh))) (h : RepDs G Hs ds vs) (p : Addr) (np : H p = none) : Q (.ref p) (upd H p (.tup vs)) := by
  refine q (.ref p) [p] _ (fun b o e => by rw [upd_ne (ne_of_none e np)]; exact e) ?_ (by simp) (by simpa using np)
  simp only [RepV]
  exact ⟨p, vs, [], rfl, rfl, upd_same, h.shs _⟩
/-- ints -/
def intsOf : List D → Option (List Int)
  | [] => some []
  | .int i :: ds => (intsOf ds).map (i :: ·)
  | _ :: _ => none
@[simp] theorem intsOf_map (ns : List Int) : intsOf (ns.map .int) = some ns := by
  induction ns with
  | nil => rfl
  | cons n ns ih => simp [intsOf, ih]
theorem intsOf_inv : ∀ {ds : List D} {ns : List Int}, intsOf ds = some ns → ds = ns.map .int
  | [], ns, h => by
    simp only [intsOf, Option.some.injEq] at h
    subst h
    rfl
  | d :: ds, ns, h => by
    cases d <;> simp only [intsOf, Option.map_eq_some_iff] at h <;> first | (cases h; done) | skip
    obtain ⟨ms, h1, rfl⟩ := h
    rw [intsOf_inv h1]
    rfl
theorem RepDs.ints {ns : List Int} {vs : List V} (h : RepDs G Hs (ns.map .int) vs) : vs = ns.map V.int := by
  induction ns generalizing vs with
  | nil => simpa [RepDs.nil_iff] using h
  | cons n ns ih =>
    obtain ⟨v, ws, rfl, p, q⟩ := RepDs.uncons h
    simp only [RepD] at p
    rw [p, ih q]
    rfl
theorem RepDs.ofInts (ns : List Int) : RepDs G Hs (ns.map .int) (ns.map V.int) := by
  induction ns with
  | nil => simp [RepDs.nil_iff]
  | cons n ns ih => exact RepDs.cons (by simp only [RepD]) ih
end

/-! ### arithmetic -/
def mulOk (i j : Int) : Bool := !(decide (Builtin.Int.intBits i > shortFactorBits) && decide (Builtin.Int.intBits j > shortFactorBits) && Builtin.Int.intTooBig (Builtin.Int.intBits i + Builtin.Int.intBits j))
theorem mulOk_ok {i j : Int} (h : mulOk i j = true) : IntMulOk i j := by
  unfold mulOk at h
  unfold IntMulOk
  intro z
  rw [z] at h
  cases h
def gAdd : D → D → Option Val
  | .int i, .int j => some (.sh (.int (i + j)))
  | .str x, .str y => if x.length + y.length ≤ sizeLine then some (.sh (.str (x ++ y))) else none
  | .lst xs, .lst ys => if xs.length + ys.length ≤ sizeLine then some (.ol ((xs ++ ys).map .sh)) else none
  | .tup xs, .tup ys => if xs.isEmpty then none else if ys.isEmpty then none else if xs.length + ys.length ≤ sizeLine then some (.ot ((xs ++ ys).map .sh)) else none
  | _, _ => none
def gSub : D → D → Option Val
  | .int i, .int j => some (.sh (.int (i - j)))
  | _, _ => none
def gMul : D → D → Option Val
  | .int i, .int j => if mulOk i j then some (.sh (.int (i * j))) else none
  | _, _ => none
def gMod : D → D → Option Val
  | .int i, .int j => if j = 0 then none else some (.sh (.int (i.fmod j)))
  | _, _ => none
def gDiv : D → D → Option Val
  | .int i, .int j => if j = 0 then none else if j.natAbs.log2 < 9000 then some (.sh (.int (i.fdiv j))) else none
  | _, _ => none
def gPow : D → D → Option Val
  | .int i, .int j => if 0 ≤ j ∧ (Builtin.Int.intBits i : Int) * j ≤ 2 ^ 27 then some (.sh (.int (i ^ j.toNat))) else none
  | _, _ => none
def rCatL (K : PySem.W.Frag) : R2 := fun x y H Q => ∃ l b xs zs, x = .ref l ∧ y = .ref b ∧ SqL K H l xs ∧ SqL K H b zs ∧ xs.length + zs.length ≤ sizeLine ∧ ∀ p, H p = none → Q (.ref p) (upd H p (.lst (xs ++ zs)))
section
variable {X : Cx}
theorem op_catL : OpR X (binaryOp .Add) (rCatL X.K) := by
  intro pins s σ H x y v u Q I rx ry h
  obtain ⟨l, b, xs, zs, rfl, rfl, hH, hB, hz, q⟩ := h
  cases rx
  cases ry
  obtain ⟨its, r, ⟨o, n, ho, hc, _, hd⟩, hl⟩ := I.list hH
  obtain ⟨its2, r2, ⟨o2, n2, ho2, hc2, _, hd2⟩, hl2⟩ := I.list hB
  have l1 := r.length
  have l2 := r2.length
  obtain ⟨cls, dd, data, sl⟩ := o
  obtain ⟨cls2, dd2, data2, sl2⟩ := o2
  simp only at hc hd hc2 hd2
  subst hc hd hc2 hd2
  refine concat_meets ⟨_, ho, rfl⟩ ⟨_, ho2, rfl⟩ noFill_list_add seq_list_add PySem.F.slot_list_add PySem.F.entry_list_add (PySem.F.args_list_add_2 _ _) (list_addW l b its.toArray its2.toArray n n2 dd dd2 sl sl2 (by simp only [List.size_toArray]; omega)) ⟨ho, ho2, ?_⟩
  have ea : its.toArray ++ its2.toArray = (its ++ its2).toArray := by simp
  rw [ea]
  exact ⟨.ref _, _, I.lnew (t' := s.toks) (r.append r2) (by rw [List.length_append]; omega), rfl, q _ I.fresh⟩
def rAddX (K : PySem.W.Frag) : R2 := fun x y H Q => ((rI0 fun i j => .int (i + j)) x y H Q ∨ (∃ i j, x = .str i ∧ y = .str j ∧ i.length + j.length ≤ sizeLine ∧ Q (.str (i ++ j)) H)) ∨ (rCatL K x y H Q ∨ rCatT K x y H Q)
theorem op_addX : OpR X (binaryOp .Add) (rAddX X.K) := (op_add.or op_add_str).or (op_catL.or op_catT)
theorem op_mulX : OpR X (binaryOp .Mult) (rI (fun i j => mulOk i j = true) fun i j => .int (i * j)) := opI fun _ _ _ _ _ _ _ hc q => mul_int q (mulOk_ok hc)
theorem op_divX : OpR X (binaryOp .FloorDiv) (rI (fun _ j => j ≠ 0 ∧ j.natAbs.log2 < 9000) fun i j => .int (i.fdiv j)) := opI fun _ _ _ _ _ _ _ hc q => floordiv_int hc.1 q (.inl (PyProof.noPylong_of_log2 hc.2))
theorem op_powX : OpR X (binaryOp .Pow) (rI (fun i j => 0 ≤ j ∧ (Builtin.Int.intBits i : Int) * j ≤ 2 ^ 27) fun i j => .int (i ^ j.toNat)) := opI fun _ _ _ _ _ _ _ hc q => pow_int hc.1 hc.2 q
end
theorem P2.int {G : Gc} {c : Int → Int → Prop} {g : Int → Int → Int} {f : D → D → Option Val} (h : ∀ d e x, f d e = some x → ∃ i j, d = .int i ∧ e = .int j ∧ c i j ∧ x = .sh (.int (g i j))) : P2 G (rI c fun i j => .int (g i j)) f := fun d e x hx v u H Hs Q s t1 t2 q => by
  obtain ⟨i, j, rfl, rfl, hc, rfl⟩ := h d e x hx
  exact ⟨i, j, t1, t2, hc, q.int⟩
theorem p_sub {G : Gc} : P2 G (rI0 fun i j => .int (i - j)) gSub := fun d e x hx v u H Hs Q s t1 t2 q => by
  unfold gSub at hx
  split at hx
  · obtain rfl := Option.some.inj hx
    exact ⟨_, _, t1, t2, q.int⟩
  · cases hx
theorem p_mul {G : Gc} : P2 G (rI (fun i j => mulOk i j = true) fun i j => .int (i * j)) gMul := P2.int fun d e x hx => by
  unfold gMul at hx
  split at hx
  · split at hx
    · exact ⟨_, _, rfl, rfl, by assumption, (Option.some.inj hx).symm⟩
    · cases hx
  · cases hx
theorem p_mod {G : Gc} : P2 G (rI (fun _ j => j ≠ 0) fun i j => .int (i.fmod j)) gMod := P2.int fun d e x hx => by
  unfold gMod at hx
  split at hx
  · split at hx
    · cases hx
    · exact ⟨_, _, rfl, rfl, by assumption, (Option.some.inj hx).symm⟩
  · cases hx
theorem p_div {G : Gc} : P2 G (rI (fun _ j => j ≠ 0 ∧ j.natAbs.log2 < 9000) fun i j => .int (i.fdiv j)) gDiv := P2.int fun d e x hx => by
  unfold gDiv at hx
  split at hx
  · split at hx
    · cases hx
    · split at hx
      · exact ⟨_, _, rfl, rfl, ⟨by assumption, by assumption⟩, (Option.some.inj hx).symm⟩
      · cases hx
  · cases hx
theorem p_pow {G : Gc} : P2 G (rI (fun i j => 0 ≤ j ∧ (Builtin.Int.intBits i : Int) * j ≤ 2 ^ 27) fun i j => .int (i ^ j.toNat)) gPow := P2.int fun d e x hx => by
  unfold gPow at hx
  split at hx
  · split at hx
    · exact ⟨_, _, rfl, rfl, by assumption, (Option.some.inj hx).symm⟩
    · cases hx
  · cases hx
theorem p_add {G : Gc} : P2 G (rAddX G.K) gAdd := fun d e x hx v u H Hs Q s t1 t2 q => by
  unfold gAdd at hx
  split at hx
  · obtain rfl := Option.some.inj hx
    exact .inl (.inl ⟨_, _, t1, t2, q.int⟩)
  · split at hx
    · obtain rfl := Option.some.inj hx
      exact .inl (.inr ⟨_, _, t1, t2, by assumption, q.str⟩)
    · cases hx
  · rename_i xs ys
    split at hx
    · obtain rfl := Option.some.inj hx
      obtain ⟨a, vs, rfl, q1, r1⟩ := t1
      obtain ⟨b, us, rfl, q2, r2⟩ := t2
      refine .inr (.inl ⟨a, b, vs, us, rfl, rfl, q1, q2, by rw [← r1.length, ← r2.length]; assumption, fun p np => q.lst (r1.append r2) p np⟩)
    · cases hx
  · rename_i xs ys
    split at hx
    · cases hx
    · split at hx
      · cases hx
      · split at hx
        · obtain rfl := Option.some.inj hx
          obtain ⟨a, vs, rfl, q1, r1⟩ := t1
          obtain ⟨b, us, rfl, q2, r2⟩ := t2
          have n1 : vs ≠ [] := fun z => by
            have := r1.length
            rw [z] at this
            have : xs = [] := List.length_eq_zero_iff.mp this
            subst this
            simp at *
          have n2 : us ≠ [] := fun z => by
            have := r2.length
            rw [z] at this
            have : ys = [] := List.length_eq_zero_iff.mp this
            subst this
            simp at *
          exact .inr (.inr ⟨a, b, vs, us, rfl, rfl, q1, q2, n1, by rw [← r1.length, ← r2.length]; assumption, fun z => absurd z n2, fun _ p np => q.tup (r1.append r2) p np⟩)
        · cases hx
  · cases hx
section
variable {M : Md} {S : Sc} {k : Nat} {W : WX} {X : Cx} {a b c e : Expr} {fa fb fc : FO} {pos : Pos}
theorem ok_bin {op : Operator} {r : R2} {g : D → D → Option Val} (ho : OpR X (binaryOp op) r) (hp : P2 M.G r g) (ha : OkO M X W a fa) (hb : OkO M X W b fb) : OkO M X W (.BinOp a op b pos) (f2 fa fb (p2 g)) :=
  ok2 ha hb (prim2 hp) fun _ _ h1 h2 => pe_op ho h1 h2
theorem ok_add (ok : Cok M S k W X) (ha : OkO M X W a fa) (hb : OkO M X W b fb) : OkO M X W (.BinOp a .Add b pos) (f2 fa fb (p2 gAdd)) := by
  refine ok_bin op_addX ?_ ha hb
  have : M.K = X.K := by rw [← ok.md]; rfl
  rw [← this]
  exact p_add
theorem ok_sub (ha : OkO M X W a fa) (hb : OkO M X W b fb) : OkO M X W (.BinOp a .Sub b pos) (f2 fa fb (p2 gSub)) := ok_bin op_sub p_sub ha hb
theorem ok_mul (ha : OkO M X W a fa) (hb : OkO M X W b fb) : OkO M X W (.BinOp a .Mult b pos) (f2 fa fb (p2 gMul)) := ok_bin op_mulX p_mul ha hb
theorem ok_mod (ha : OkO M X W a fa) (hb : OkO M X W b fb) : OkO M X W (.BinOp a .Mod b pos) (f2 fa fb (p2 gMod)) := ok_bin op_modN p_mod ha hb
theorem ok_div (ha : OkO M X W a fa) (hb : OkO M X W b fb) : OkO M X W (.BinOp a .FloorDiv b pos) (f2 fa fb (p2 gDiv)) := ok_bin op_divX p_div ha hb
theorem ok_pow (ha : OkO M X W a fa) (hb : OkO M X W b fb) : OkO M X W (.BinOp a .Pow b pos) (f2 fa fb (p2 gPow)) := ok_bin op_powX p_pow ha hb
def gNeg : D → Option Val
  | .int i => some (.sh (.int (-i)))
  | _ => none
theorem ok_neg (ha : OkO M X W a fa) : OkO M X W (.UnaryOp .USub a pos) (f1 fa (p1 gNeg)) := by
  refine ok1 ha (prim1 (r := rU fun i => .int (-i)) fun d x hx v H Hs Q s t q => ?_) fun _ h1 => pe_un un_neg h1
  unfold gNeg at hx
  split at hx
  · obtain rfl := Option.some.inj hx
    exact ⟨_, t, q.int⟩
  · cases hx
end
end Wp
end
section
set_option Elab.async false
set_option linter.all false
set_option maxRecDepth 100000
/-! WpM: comparisons, items, built-in functions. -/
namespace Wp
open PySem PySem.Spec PyProof.Rows L2

/-! ### plain data -/
mutual
def toPy : D → Option PyData
  | .non => some .none
  | .bl b => some (.bool b)
  | .int i => some (.int i)
  | .str x => some (.str x)
  | .lst xs => (toPys xs).map .list
  | .tup xs => (toPys xs).map .tuple
  | .dict _ _ => none
  | .obj _ _ _ => none
def toPys : List D → Option (List PyData)
  | [] => some []
  | x :: xs => (toPy x).bind fun p => (toPys xs).bind fun ps => some (p :: ps)
end
section
variable {G : Gc} {H : Hp}
mutual
theorem RepD.dp : ∀ {d : D} {v : V} {p : PyData}, RepD G H d v → toPy d = some p → L2.Dp G.K H v p
  | .non, v, p, h, e => by
    simp only [RepD] at h
    simp only [toPy, Option.some.injEq] at e
    subst h e
    exact .non
  | .bl b, v, p, h, e => by
    simp only [RepD] at h
    simp only [toPy, Option.some.injEq] at e
    subst h e
    exact .bl b
  | .int i, v, p, h, e => by
    simp only [RepD] at h
    simp only [toPy, Option.some.injEq] at e
    subst h e
    exact .int i
  | .str x, v, p, h, e => by
    simp only [RepD] at h
    simp only [toPy, Option.some.injEq] at e
    subst h e
    exact .str x
  | .lst xs, v, p, h, e => by
    simp only [RepD] at h
    simp only [toPy, Option.map_eq_some_iff] at e
    obtain ⟨a, vs, rfl, q, r⟩ := h
    obtain ⟨ps, e1, rfl⟩ := e
    exact .lst q (RepDs.dp r e1)
  | .tup xs, v, p, h, e => by
    simp only [RepD] at h
    simp only [toPy, Option.map_eq_some_iff] at e
    obtain ⟨a, vs, rfl, q, r⟩ := h
    obtain ⟨ps, e1, rfl⟩ := e
    exact .tup q (RepDs.dp r e1)
  | .dict _ _, v, p, h, e => by simp [toPy] at e
  | .obj _ _ _, v, p, h, e => by simp [toPy] at e
theorem RepDs.dp : ∀ {ds : List D} {vs : List V} {ps : List PyData}, RepDs G H ds vs → toPys ds = some ps → L2.DpAll G.K H vs ps
  | [], vs, ps, h, e => by
    rw [RepDs.nil_iff] at h
    simp only [toPys, Option.some.injEq] at e
    subst h e
    exact .nil
  | d :: ds, vs, ps, h, e => by
    obtain ⟨v, ws, rfl, p, q⟩ := h.uncons
    simp only [toPys, Option.bind_eq_some_iff, Option.some.injEq] at e
    obtain ⟨p1, e1, p2, e2, rfl⟩ := e
    exact .cons (RepD.dp p e1) (RepDs.dp q e2)
end
theorem RepT.dp {Hs : Hp} {d : D} {v : V} {p : PyData} (h : RepT G H Hs d v) (s : Le Hs H) (e : toPy d = some p) : L2.Dp G.K H v p := (h.full s).dp e
end

/-! ### comparisons -/
def eqC : D → D → Option Bool
  | .int i, .int j => some (decide (i = j))
  | .str x, .str y => some (decide (x = y))
  | .bl a, .bl b => some (decide (a = b))
  | .non, .non => some true
  | .non, .int _ => some false
  | .int _, .non => some false
  | .non, .str _ => some false
  | .str _, .non => some false
  | .non, .bl _ => some false
  | .bl _, .non => some false
  | .int _, .str _ => some false
  | .str _, .int _ => some false
  | d, e => (toPy d).bind fun p => (toPy e).bind fun q => if SeqAt.shaped p && SeqAt.shaped q then some (PyData.eqv p q) else none
def gEq (d e : D) : Option Val := (eqC d e).map fun b => .sh (.bl b)
def gNe (d e : D) : Option Val := (eqC d e).map fun b => .sh (.bl (!b))
def rEqX (K : PySem.W.Frag) : R2 := fun x y H Q => rEq x y H Q ∨ rEqD K x y H Q
def rNeX (K : PySem.W.Frag) : R2 := fun x y H Q => rNe x y H Q ∨ rNeD K x y H Q
theorem eqC_ok {G : Gc} {H Hs : Hp} {d e : D} {v u : V} {b : Bool} (h : eqC d e = some b) (s : Le Hs H) (t1 : RepT G H Hs d v) (t2 : RepT G H Hs e u) :
    (scal v u = true ∧ decide (v = u) = b) ∨ ∃ p q, L2.Dp G.K H v p ∧ L2.Dp G.K H u q ∧ SeqAt.shaped p = true ∧ SeqAt.shaped q = true ∧ PyData.eqv p q = b := by
  unfold eqC at h
  split at h
  all_goals first
    | (obtain rfl := Option.some.inj h
       obtain rfl := t1
       obtain rfl := t2
       left
       refine ⟨rfl, ?_⟩
       simp
       done)
    | skip
  · simp only [Option.bind_eq_some_iff, Option.ite_none_right_eq_some, Bool.and_eq_true, Option.some.injEq] at h
    obtain ⟨p, e1, q, e2, ⟨s1, s2⟩, e3⟩ := h
    exact .inr ⟨p, q, t1.dp s e1, t2.dp s e2, s1, s2, e3⟩
theorem p_eq {G : Gc} : P2 G (rEqX G.K) gEq := fun d e x hx v u H Hs Q s t1 t2 q => by
  unfold gEq at hx
  simp only [Option.map_eq_some_iff] at hx
  obtain ⟨b, hb, rfl⟩ := hx
  rcases eqC_ok hb s t1 t2 with ⟨h1, h2⟩ | ⟨p, p2, d1, d2, s1, s2, e3⟩
  · exact .inl ⟨h1, by rw [h2]; exact q.bl⟩
  · exact .inr ⟨p, p2, d1, d2, s1, s2, by rw [e3]; exact q.bl⟩
theorem p_ne {G : Gc} : P2 G (rNeX G.K) gNe := fun d e x hx v u H Hs Q s t1 t2 q => by
  unfold gNe at hx
  simp only [Option.map_eq_some_iff] at hx
  obtain ⟨b, hb, rfl⟩ := hx
  rcases eqC_ok hb s t1 t2 with ⟨h1, h2⟩ | ⟨p, p2, d1, d2, s1, s2, e3⟩
  · exact .inl ⟨h1, by rw [h2]; exact q.bl⟩
  · exact .inr ⟨p, p2, d1, d2, s1, s2, by rw [e3]; exact q.bl⟩
def gCmp (c : Int → Int → Bool) : D → D → Option Val
  | .int i, .int j => some (.sh (.bl (c i j)))
  | _, _ => none
theorem p_cmp {G : Gc} {c : Int → Int → Bool} : P2 G (rI0 fun i j => .bl (c i j)) (gCmp c) := fun d e x hx v u H Hs Q s t1 t2 q => by
  unfold gCmp at hx
  split at hx
  · obtain rfl := Option.some.inj hx
    exact ⟨_, _, t1, t2, q.bl⟩
  · cases hx
def gIsN (neg : Bool) : D → D → Option Val
  | d, .non => some (.sh (.bl (match d with | .non => !neg | _ => neg)))
  | _, _ => none
theorem p_isN {G : Gc} : P2 G (fun x y H Q => y = .non ∧ Q (.bl (decide (x = .non))) H) (gIsN false) := fun d e x hx v u H Hs Q s t1 t2 q => by
  unfold gIsN at hx
  split at hx
  · obtain rfl := Option.some.inj hx
    refine ⟨t2, ?_⟩
    cases d <;> simp only [RepT] at t1 <;> first
      | (subst t1; exact q.bl)
      | (obtain ⟨a, vs, rfl, _⟩ := t1; exact q.bl)
      | (obtain ⟨a, dx, vs, rfl, _⟩ := t1; exact q.bl)
  · cases hx
theorem p_notN {G : Gc} : P2 G (fun x y H Q => y = .non ∧ Q (.bl (!decide (x = .non))) H) (gIsN true) := fun d e x hx v u H Hs Q s t1 t2 q => by
  unfold gIsN at hx
  split at hx
  · obtain rfl := Option.some.inj hx
    refine ⟨t2, ?_⟩
    cases d <;> simp only [RepT] at t1 <;> first
      | (subst t1; exact q.bl)
      | (obtain ⟨a, vs, rfl, _⟩ := t1; exact q.bl)
      | (obtain ⟨a, dx, vs, rfl, _⟩ := t1; exact q.bl)
  · cases hx
section
variable {M : Md} {S : Sc} {k : Nat} {W : WX} {X : Cx} {a b c e : Expr} {fa fb fc : FO} {pos : Pos}
theorem ok2P {P : TE → Prop} {r : V → V → Hp → VK → Prop} {g : List D → Option Val} (ha : OkO M X W a fa) (hb : OkO M X W b fb) (pr : PrimOk M.G (fun vs H Q => ∀ x y, vs = [x, y] → r x y H Q) g)
    (he : ∀ ta tb, PE X a ta → PE X b tb → P (fun σ H Q => ta σ H fun x H1 => tb σ H1 fun y H2 => r x y H2 Q)) : ∃ t, P t ∧ ∀ η σ as H Hs res Q, Rep M.G η σ as H Hs → f2 fa fb g η = some res → PostO M.G W σ as H Hs Q res → t σ H Q := by
  obtain ⟨ta, hta, hha⟩ := ha
  obtain ⟨tb, htb, hhb⟩ := hb.framed
  refine ⟨_, he ta tb hta htb, fun η σ as H Hs res Q hR hf hp => ?_⟩
  rcases bindR_inv hf with ⟨o, η1, e1, e2⟩ | ⟨c, p, η1, e1, rfl⟩
  · refine hha η σ as H Hs _ _ hR e1 fun v as' H' Hs' r1 l1 x1 => ?_
    rcases bindR_inv e2 with ⟨o2, η2, e3, e4⟩ | ⟨c, p, η2, e3, rfl⟩
    · refine hhb [o.p] [some v] η1 σ as' H' Hs' _ _ r1 rfl e3 fun v2 as2 H2 Hs2 r2 l2 x2 => ?_
      exact app_ok pr (os := [o, o2]) (vs := [v, v2]) r2 ⟨v, [v2], rfl, l1, v2, [], rfl, l2, rfl⟩ (x1.trans x2) e4 hp v v2 rfl
    · refine hhb [o.p] [some v] η1 σ as' H' Hs' _ _ r1 rfl e3 fun v2 dx as2 H2 Hs2 r2 hX x2 => ?_
      exact hp v2 dx as2 H2 Hs2 r2 hX (x1.trans x2)
  · exact hha η σ as H Hs _ _ hR e1 hp
/-- a comparison, as a value and as a test -/
theorem ok_cmp {op : CmpOp} {r : R2} {g : D → D → Option Val} (ho : OpR X (compareOp op) r) (hm : behindInMarks op b = false) (hp : P2 M.G r g) (ha : OkO M X W a fa) (hb : OkO M X W b fb) : OkO M X W (.Compare a [op] [b] pos) (f2 fa fb (p2 g)) :=
  ok2 ha hb (prim2 hp) fun _ _ h1 h2 => pe_cmpR ho h1 h2 hm
theorem okT_cmp {op : CmpOp} {r : R2} {g : D → D → Option Val} (ho : OpR X (compareOp op) r) (hm : behindInMarks op b = false) (hp : P2 M.G r g) (ha : OkO M X W a fa) (hb : OkO M X W b fb) : OkT M X W (.Compare a [op] [b] pos) (fBl (f2 fa fb (p2 g))) := by
  obtain ⟨t, ⟨h1, h2⟩, hh⟩ := ok2P (P := fun t => PE X (.Compare a [op] [b] pos) t ∧ PT X (.Compare a [op] [b] pos) (tTest t)) (W := W) (r := r) ha hb (prim2 hp) fun _ _ h1 h2 => ⟨pe_cmpR ho h1 h2 hm, pt_cmpR ho h1 h2 hm⟩
  exact okT_of ⟨t, h1, h2, hh⟩
theorem Cok.K (ok : Cok M S k W X) : X.K = M.K := by rw [← ok.md]; rfl
theorem Cok.un (ok : Cok M S k W X) : X.A.units + 65 < cLine := by
  have := ok.room.un
  omega
theorem op_eqX (ok : Cok M S k W X) : OpR X (compareOp .Eq) (rEqX M.K) := by
  rw [← ok.K]
  exact op_eq.or (op_eqD (by have := ok.un; omega))
theorem op_neX (ok : Cok M S k W X) : OpR X (compareOp .NotEq) (rNeX M.K) := by
  rw [← ok.K]
  exact op_ne.or (op_neD (by have := ok.un; omega))
theorem ok_eq (ok : Cok M S k W X) (ha : OkO M X W a fa) (hb : OkO M X W b fb) : OkO M X W (.Compare a [.Eq] [b] pos) (f2 fa fb (p2 gEq)) := ok_cmp (op_eqX ok) (nomark _) p_eq ha hb
theorem okT_eq (ok : Cok M S k W X) (ha : OkO M X W a fa) (hb : OkO M X W b fb) : OkT M X W (.Compare a [.Eq] [b] pos) (fBl (f2 fa fb (p2 gEq))) := okT_cmp (op_eqX ok) (nomark _) p_eq ha hb
theorem ok_ne (ok : Cok M S k W X) (ha : OkO M X W a fa) (hb : OkO M X W b fb) : OkO M X W (.Compare a [.NotEq] [b] pos) (f2 fa fb (p2 gNe)) := ok_cmp (op_neX ok) (nomark _) p_ne ha hb
theorem okT_ne (ok : Cok M S k W X) (ha : OkO M X W a fa) (hb : OkO M X W b fb) : OkT M X W (.Compare a [.NotEq] [b] pos) (fBl (f2 fa fb (p2 gNe))) := okT_cmp (op_neX ok) (nomark _) p_ne ha hb
def cLt (i j : Int) : Bool := decide (i < j)
def cLe (i j : Int) : Bool := decide (i ≤ j)
def cGt (i j : Int) : Bool := decide (j < i)
def cGe (i j : Int) : Bool := decide (j ≤ i)
def cmpF : CmpOp → Int → Int → Bool
  | .Lt => cLt
  | .LtE => cLe
  | .Gt => cGt
  | .GtE => cGe
  | _ => fun _ _ => false
def isOrd : CmpOp → Bool
  | .Lt => true
  | .LtE => true
  | .Gt => true
  | .GtE => true
  | _ => false
theorem op_ord {op : CmpOp} (h : isOrd op = true) : OpR X (compareOp op) (rI0 fun i j => .bl (cmpF op i j)) := by
  cases op <;> first | cases h | skip
  · exact op_lt
  · exact op_le
  · exact op_gt
  · exact op_ge
theorem ord_mark {op : CmpOp} (h : isOrd op = true) (b : Expr) : behindInMarks op b = false := nomark b (by cases op <;> simp_all [isOrd]) (by cases op <;> simp_all [isOrd])
theorem ok_ord {op : CmpOp} (h : isOrd op = true) (ha : OkO M X W a fa) (hb : OkO M X W b fb) : OkO M X W (.Compare a [op] [b] pos) (f2 fa fb (p2 (gCmp (cmpF op)))) := ok_cmp (op_ord h) (ord_mark h b) p_cmp ha hb
theorem okT_ord {op : CmpOp} (h : isOrd op = true) (ha : OkO M X W a fa) (hb : OkO M X W b fb) : OkT M X W (.Compare a [op] [b] pos) (fBl (f2 fa fb (p2 (gCmp (cmpF op))))) := okT_cmp (op_ord h) (ord_mark h b) p_cmp ha hb
theorem ok_isN (ha : OkO M X W a fa) (hb : OkO M X W b fb) : OkO M X W (.Compare a [.Is] [b] pos) (f2 fa fb (p2 (gIsN false))) := ok_cmp op_isN (nomark _) p_isN ha hb
theorem okT_isN (ha : OkO M X W a fa) (hb : OkO M X W b fb) : OkT M X W (.Compare a [.Is] [b] pos) (fBl (f2 fa fb (p2 (gIsN false)))) := okT_cmp op_isN (nomark _) p_isN ha hb
theorem ok_notN (ha : OkO M X W a fa) (hb : OkO M X W b fb) : OkO M X W (.Compare a [.IsNot] [b] pos) (f2 fa fb (p2 (gIsN true))) := ok_cmp op_notN (nomark _) p_notN ha hb
theorem okT_notN (ha : OkO M X W a fa) (hb : OkO M X W b fb) : OkT M X W (.Compare a [.IsNot] [b] pos) (fBl (f2 fa fb (p2 (gIsN true)))) := okT_cmp op_notN (nomark _) p_notN ha hb
/-! ### a < b < c -/
def intOf (o : Opv) (η : Env) : Option (Int × Env) := match prep1 o η with
  | some (.int i, η1) => some (i, η1)
  | _ => none
def fChain (fa fb fc : FO) (c1 c2 : Int → Int → Bool) : FO := fun η => bindR (fa η) fun o η1 => bindR (fb η1) fun p η2 => match prepAll [o, p] η2 with
  | some ([.int i, .int j], η3) => if c1 i j then bindR (fc η3) fun q η4 => (match prepAll [q] η4 with
      | some ([.int l], η5) => okR (.pend (.sh (.bl (c2 j l)))) η5
      | _ => none)
    else okR (.pend (.sh (.bl false))) η3
  | _ => none
theorem chainP {P : TE → Prop} {op op' : CmpOp} (ha : OkO M X W a fa) (hb : OkO M X W b fb) (hc : OkO M X W c fc)
    (he : ∀ ta tb tc, PE X a ta → PE X b tb → PE X c tc → P (tChain (rI0 fun i j => .bl (cmpF op i j)) (rI0 fun i j => .bl (cmpF op' i j)) ta tb tc)) : ∃ t, P t ∧ ∀ η σ as H Hs res Q, Rep M.G η σ as H Hs → fChain fa fb fc (cmpF op) (cmpF op') η = some res → PostO M.G W σ as H Hs Q res → t σ H Q := by
  obtain ⟨ta, hta, hha⟩ := ha
  obtain ⟨tb, htb, hhb⟩ := hb.framed
  obtain ⟨tc, htc, hhc⟩ := hc
  refine ⟨_, he ta tb tc hta htb htc, fun η σ as H Hs res Q hR hf hp => ?_⟩
  rcases bindR_inv hf with ⟨o, η1, e1, e2⟩ | ⟨c, p, η1, e1, rfl⟩
  · refine hha η σ as H Hs _ _ hR e1 fun v as' H' Hs' r1 l1 x1 => ?_
    rcases bindR_inv e2 with ⟨o2, η2, e3, e4⟩ | ⟨c, p, η2, e3, rfl⟩
    · refine hhb [o.p] [some v] η1 σ as' H' Hs' _ _ r1 rfl e3 fun v2 as2 H2 Hs2 r2 l2 x2 => ?_
      cases ep : prepAll [o, o2] η2 with
      | none =>
        rw [ep] at e4
        cases e4
      | some q =>
        obtain ⟨ds, η3⟩ := q
        rw [ep] at e4
        obtain ⟨as3, Hs3, r3, x3, t3⟩ := prep_ok (os := [o, o2]) (vs := [v, v2]) r2 ⟨v, [v2], rfl, l1, v2, [], rfl, l2, rfl⟩ ep
        obtain ⟨d1, d2, rfl⟩ : ∃ d1 d2, ds = [d1, d2] := by
          rcases ds with _ | ⟨d1, _ | ⟨d2, _ | ⟨_, _⟩⟩⟩ <;> first | exact ⟨_, _, rfl⟩ | (simp at e4; done)
        obtain ⟨w1, ws1, z1, t4, t5⟩ := t3.uncons
        obtain ⟨rfl, rfl⟩ := List.cons.inj z1
        obtain ⟨w2, ws2, z2, t6, t7⟩ := t5.uncons
        obtain ⟨rfl, rfl⟩ := List.cons.inj z2
        cases d1 <;> first | cases e4 | skip
        cases d2 <;> first | cases e4 | skip
        rename_i i j
        simp only at e4
        obtain rfl : v = .int i := t4
        obtain rfl : v2 = .int j := t6
        refine ⟨i, j, rfl, rfl, cmpF op i j, rfl, ?_⟩
        by_cases hc1 : cmpF op i j = true
        · rw [if_pos hc1] at e4 ⊢
          rcases bindR_inv e4 with ⟨q, η4, e5, e6⟩ | ⟨c, p, η4, e5, rfl⟩
          · refine hhc η3 σ as3 H2 Hs3 _ _ r3 e5 fun v3 as4 H4 Hs4 r4 l4 x4 => ?_
            cases eq : prepAll [q] η4 with
            | none =>
              rw [eq] at e6
              cases e6
            | some q2 =>
              obtain ⟨ds2, η5⟩ := q2
              rw [eq] at e6
              obtain ⟨as5, Hs5, r5, x5, t8⟩ := prep_ok (os := [q]) (vs := [v3]) r4 ⟨v3, [], rfl, l4, rfl⟩ eq
              obtain ⟨d3, rfl⟩ : ∃ d3, ds2 = [d3] := by
                rcases ds2 with _ | ⟨d1, _ | ⟨_, _⟩⟩ <;> first | exact ⟨_, rfl⟩ | (simp at e6; done)
              obtain ⟨w3, ws3, z3, t9, _⟩ := t8.uncons
              obtain ⟨rfl, rfl⟩ := List.cons.inj z3
              cases d3 <;> first | (simp at e6; done) | skip
              rename_i l
              obtain rfl : v3 = .int l := t9
              obtain rfl : res = .ok (.pend (.sh (.bl (cmpF op' j l)))) η5 := (Option.some.inj e6).symm
              exact ⟨j, l, rfl, rfl, hp (.bl (cmpF op' j l)) _ _ _ (r5.push_sh (by simp only [RepD])) trivial (x1.trans (x2.trans (x3.trans (x4.trans x5))))⟩
          · exact hhc η3 σ as3 H2 Hs3 _ _ r3 e5 fun v2 dx as2 H2 Hs2 r2 hX xx => hp v2 dx as2 H2 Hs2 r2 hX (x1.trans (x2.trans (x3.trans xx)))
        · rw [if_neg hc1] at e4 ⊢
          obtain rfl : res = .ok (.pend (.sh (.bl false))) η3 := (Option.some.inj e4).symm
          exact hp (.bl false) _ _ _ (r3.push_sh (by simp only [RepD])) trivial (x1.trans (x2.trans x3))
    · refine hhb [o.p] [some v] η1 σ as' H' Hs' _ _ r1 rfl e3 fun v2 dx as2 H2 Hs2 r2 hX x2 => ?_
      exact hp v2 dx as2 H2 Hs2 r2 hX (x1.trans x2)
  · exact hha η σ as H Hs _ _ hR e1 hp
theorem ok_chain {op op' : CmpOp} (h : isOrd op = true) (h' : isOrd op' = true) (hm : lastMarks [op, op'] [b, c] = false) (ha : OkO M X W a fa) (hb : OkO M X W b fb) (hc : OkO M X W c fc) : OkO M X W (.Compare a [op, op'] [b, c] pos) (fChain fa fb fc (cmpF op) (cmpF op')) :=
  chainP ha hb hc fun _ _ _ h1 h2 h3 => pe_chain (op_ord h) (op_ord h') h1 h2 h3 hm
theorem okT_chain {op op' : CmpOp} (h : isOrd op = true) (h' : isOrd op' = true) (hm : lastMarks [op, op'] [b, c] = false) (ha : OkO M X W a fa) (hb : OkO M X W b fb) (hc : OkO M X W c fc) : OkT M X W (.Compare a [op, op'] [b, c] pos) (fBl (fChain fa fb fc (cmpF op) (cmpF op'))) := by
  obtain ⟨t, ⟨h1, h2⟩, hh⟩ := chainP (P := fun t => PE X (.Compare a [op, op'] [b, c] pos) t ∧ PT X (.Compare a [op, op'] [b, c] pos) (tTest t)) (W := W) (op := op) (op' := op') ha hb hc fun _ _ _ h1 h2 h3 => ⟨pe_chain (op_ord h) (op_ord h') h1 h2 h3 hm, pt_chain (op_ord h) (op_ord h') h1 h2 h3 hm⟩
  exact okT_of ⟨t, h1, h2, hh⟩
end
end Wp
end
section
set_option Elab.async false
set_option linter.all false
set_option maxRecDepth 100000
/-! WpO: items, slices, built-in functions. -/
namespace Wp
open PySem PySem.Spec PyProof.Rows L2

section
variable {M : Md} {S : Sc} {k : Nat} {W : WX} {X : Cx} {a b c e : Expr} {es : List Expr} {fa fb fc : FO} {g : FL} {pos p : Pos} {x : Str}
/-- two readings, the data tell which -/
theorem OkO.or {f f' fq : FO} (h1 : OkO M X W e f) (h2 : OkO M X W e f') (h : ∀ η r, fq η = some r → f η = some r ∨ f' η = some r) : OkO M X W e fq := by
  obtain ⟨t1, p1, q1⟩ := h1
  obtain ⟨t2, p2, q2⟩ := h2
  refine ⟨fun σ H Q => t1 σ H Q ∨ t2 σ H Q, ⟨fun pins s σ H Q I hw => hw.elim (p1.run pins s σ H Q I) (p2.run pins s σ H Q I)⟩, fun η σ as H Hs r Q hR hf hp => ?_⟩
  rcases h η r hf with z | z
  · exact .inl (q1 η σ as H Hs r Q hR z hp)
  · exact .inr (q2 η σ as H Hs r Q hR z hp)
theorem f2_or {g g1 g2 : D → D → Option Val} (h : ∀ d e x, g d e = some x → g1 d e = some x ∨ g2 d e = some x) (η : Env) (r : Res Opv) (hf : f2 fa fb (p2 g) η = some r) : f2 fa fb (p2 g1) η = some r ∨ f2 fa fb (p2 g2) η = some r := by
  unfold f2 at hf ⊢
  rcases bindR_inv hf with ⟨o, η1, e1, e2⟩ | ⟨c, p, η1, e1, rfl⟩
  · rcases bindR_inv e2 with ⟨o2, η2, e3, e4⟩ | ⟨c, p, η2, e3, rfl⟩
    · rw [e1]
      simp only [bindR_some, e3]
      unfold appR at e4 ⊢
      cases ep : prepAll [o, o2] η2 with
      | none =>
        rw [ep] at e4
        cases e4
      | some q =>
        obtain ⟨ds, η3⟩ := q
        rw [ep] at e4
        simp only at e4 ⊢
        cases eg : p2 g ds with
        | none =>
          rw [eg] at e4
          cases e4
        | some y =>
          rw [eg] at e4
          obtain ⟨d1, d2, rfl⟩ : ∃ d1 d2, ds = [d1, d2] := by
            rcases ds with _ | ⟨d1, _ | ⟨d2, _ | ⟨_, _⟩⟩⟩ <;> first | exact ⟨_, _, rfl⟩ | (simp [p2] at eg; done)
          rcases h d1 d2 y eg with z | z
          · left
            simp only [p2, z]
            exact e4
          · right
            simp only [p2, z]
            exact e4
    · left
      rw [e1]
      simp only [bindR_some, e3, bindR_exc]
  · left
    rw [e1]
    simp only [bindR_exc]

/-! ### a[i] -/
def keyOf : D → Option Key
  | .int i => some (.inl i)
  | .str x => some (.inr x)
  | _ => none
def dget (k : Key) : List Key → List D → Option D
  | k' :: ks, d :: ds => if k' = k then some d else dget k ks ds
  | _, _ => none
def gIx : D → D → Option Val
  | .lst xs, .int i => (atI xs i).map .sh
  | .tup xs, .int i => (atI xs i).map .sh
  | .str z, .int i => if z.length ≤ sizeLine then (atI z.cps.toList i).map fun c => .sh (.str ⟨#[c]⟩) else none
  | _, _ => none
def gDk : D → D → Option Val
  | .dict ks ds, e => (keyOf e).bind fun k => (dget k ks ds).map .sh
  | _, _ => none
def gSub2 (d e : D) : Option Val := match d with
  | .dict _ _ => gDk d e
  | _ => gIx d e
theorem atI_rep {G : Gc} {Hs : Hp} {ds : List D} {vs : List V} {i : Int} {d : D} (h : RepDs G Hs ds vs) (e : atI ds i = some d) : ∃ v, atI vs i = some v ∧ RepD G Hs d v := by
  unfold atI at e ⊢
  simp only [Option.bind_eq_some_iff] at e ⊢
  obtain ⟨j, e1, e2⟩ := e
  obtain ⟨v, e3, r⟩ := h.get e2
  exact ⟨v, ⟨j, by rw [← h.length]; exact e1, e3⟩, r⟩
theorem p_ix {G : Gc} : P2 G (rIx G.K) gIx := fun d e x hx v u H Hs Q s t1 t2 q => by
  unfold gIx at hx
  split at hx
  · simp only [Option.map_eq_some_iff] at hx
    obtain ⟨y, e1, rfl⟩ := hx
    obtain ⟨a, vs, rfl, q1, r1⟩ := t1
    obtain ⟨w, e2, r2⟩ := atI_rep r1 e1
    exact .inl ⟨a, vs, _, w, rfl, t2, q1, e2, q.sh r2⟩
  · simp only [Option.map_eq_some_iff] at hx
    obtain ⟨y, e1, rfl⟩ := hx
    obtain ⟨a, vs, rfl, q1, r1⟩ := t1
    obtain ⟨w, e2, r2⟩ := atI_rep r1 e1
    exact .inr (.inl ⟨a, vs, _, w, rfl, t2, q1, e2, q.sh r2⟩)
  · split at hx
    · simp only [Option.map_eq_some_iff] at hx
      obtain ⟨y, e1, rfl⟩ := hx
      exact .inr (.inr ⟨_, _, y, t1, t2, by assumption, e1, q.str⟩)
    · cases hx
  · cases hx
theorem dget_val {G : Gc} {Hs : Hp} {k : Key} : ∀ {ks : List Key} {ds : List D} {vs : List V} {d : D}, RepDs G Hs ds vs → dget k ks ds = some d → ∃ v, valV (ks.zip vs) k = some v ∧ RepD G Hs d v
  | [], ds, vs, d, h, e => by simp [dget] at e
  | k' :: ks, [], vs, d, h, e => by simp [dget] at e
  | k' :: ks, d' :: ds, vs, d, h, e => by
    obtain ⟨v, ws, rfl, p, q⟩ := h.uncons
    simp only [dget] at e
    by_cases hk : k' = k
    · rw [if_pos hk] at e
      obtain rfl := Option.some.inj e
      exact ⟨v, by rw [List.zip_cons_cons]; exact valV_pos hk, p⟩
    · rw [if_neg hk] at e
      obtain ⟨w, e1, r⟩ := dget_val q e
      exact ⟨w, by rw [List.zip_cons_cons, valV_neg hk]; exact e1, r⟩
def rDk : R2 := fun x y H Q => ∃ a v, x = .ref a ∧ DGet H a y (some v) ∧ Q v H
theorem keyOf_ok {G : Gc} {H Hs : Hp} {e : D} {u : V} {k : Key} (t : RepT G H Hs e u) (h : keyOf e = some k) : u = kV k := by
  unfold keyOf at h
  split at h
  · obtain rfl := Option.some.inj h
    exact t
  · obtain rfl := Option.some.inj h
    exact t
  · cases h
theorem p_dk {G : Gc} : P2 G rDk gDk := fun d e x hx v u H Hs Q s t1 t2 q => by
  unfold gDk at hx
  split at hx
  · simp only [Option.bind_eq_some_iff, Option.map_eq_some_iff] at hx
    obtain ⟨k, e1, y, e2, rfl⟩ := hx
    obtain ⟨a, vs, rfl, q1, l, r1⟩ := t1
    obtain ⟨w, e3, r2⟩ := dget_val r1 e2
    exact ⟨a, w, rfl, .inl ⟨_, k, q1, keyOf_ok t2 e1, e3.symm⟩, q.sh r2⟩
  · cases hx
theorem ok_sub_ (ok : Cok M S k W X) (hb : PlainIx b) (ha : OkO M X W a fa) (hb2 : OkO M X W b fb) : OkO M X W (.Subscript a b pos) (f2 fa fb (p2 gSub2)) := by
  have h1 : OkO M X W (.Subscript a b pos) (f2 fa fb (p2 gIx)) := by
    refine ok2 (r := rIx M.K) ha hb2 (prim2 p_ix) fun _ _ z1 z2 => ?_
    rw [← ok.K]
    exact pe_ix ix_seq z1 z2 hb
  have h2 : OkO M X W (.Subscript a b pos) (f2 fa fb (p2 gDk)) := ok2 (r := rDk) ha hb2 (prim2 p_dk) fun _ _ z1 z2 => pe_dget (by have := ok.un; omega) z1 z2 hb
  refine h1.or h2 (f2_or fun d e x h => ?_)
  unfold gSub2 at h
  split at h
  · exact .inr h
  · exact .inl h

/-! ### a[i:j] -/
def fPart (f : Option FO) : Env → RO (Option Int) := fun η => match f with
  | none => okR none η
  | some f => bindR (f η) fun o η1 => match prepAll [o] η1 with
    | some ([.int i], η2) => okR (some i) η2
    | _ => none
def OkP (M : Md) (X : Cx) (W : WX) (e : Option Expr) (f : Option FO) : Prop := match e, f with
  | none, none => True
  | some e, some f => OkO M X W e f
  | _, _ => False
def cutD (xs : List D) (lo hi : Option Int) : List D := (xs.drop (HT.sIx xs.length 0 lo)).take (HT.sIx xs.length xs.length hi - HT.sIx xs.length 0 lo)
def gSl (lo hi : Option Int) : D → Option Val
  | .lst xs => some (.ol ((cutD xs lo hi).map .sh))
  | .tup xs => if HT.sIx xs.length 0 lo = 0 ∧ HT.sIx xs.length xs.length hi = xs.length then none else some (.ot ((cutD xs lo hi).map .sh))
  | _ => none
def fSlice (fe : FO) (fl fh : Option FO) : FO := fun η => bindR (fe η) fun o η1 => bindR (fPart fl η1) fun l η2 => bindR (fPart fh η2) fun h η3 => appR (p1 (gSl l h)) [o] η3
theorem okP_po {eo : Option Expr} {f : Option FO} (h : OkP M X W eo f) : ∃ t, PO X eo t ∧ ∀ π τ η σ as H Hs r Q, Rep M.G (π ++ η) (τ ++ σ) as H Hs → τ.length = π.length → fPart f η = some r →
    (match r with
      | .ok o η' => ∀ as' H' Hs', Rep M.G (π ++ η') (τ ++ σ) as' H' Hs' → Ext as H Hs as' H' Hs' → Q o H'
      | .exc c p η' => PostX M.G W σ as H Hs c p η') → t σ H Q := by
  cases eo with
  | none =>
    cases f with
    | none =>
      refine ⟨_, po_none, fun π τ η σ as H Hs r Q hR hl hf hp => ?_⟩
      obtain rfl : r = .ok none η := (Option.some.inj hf).symm
      exact hp as H Hs hR Ext.refl
    | some f => exact h.elim
  | some e =>
    cases f with
    | none => exact h.elim
    | some f =>
      obtain ⟨t, ht, hh⟩ := OkO.framed h
      refine ⟨_, po_some ht, fun π τ η σ as H Hs r Q hR hl hf hp => ?_⟩
      rcases bindR_inv hf with ⟨o, η1, e1, e2⟩ | ⟨c, p, η1, e1, rfl⟩
      · refine hh π τ η σ as H Hs _ _ hR hl e1 fun v as' H' Hs' r1 l1 x1 => ?_
        cases ep : prepAll [o] η1 with
        | none =>
          rw [ep] at e2
          cases e2
        | some q =>
          obtain ⟨ds, η2⟩ := q
          rw [ep] at e2
          obtain ⟨d, rfl⟩ : ∃ d, ds = [d] := by
            rcases ds with _ | ⟨d1, _ | ⟨_, _⟩⟩ <;> first | exact ⟨_, rfl⟩ | (simp at e2; done)
          cases d <;> first | (simp at e2; done) | skip
          rename_i i
          obtain rfl : r = .ok (some i) η2 := (Option.some.inj e2).symm
          obtain ⟨a1, a2, rfl, p1, q1⟩ := r1.sub hl
          obtain ⟨as2, Hs2, r2, x2, t2⟩ := prep_ok (os := [o]) (vs := [v]) q1 ⟨v, [], rfl, l1, rfl⟩ ep
          obtain ⟨w, ws, z, t3, _⟩ := t2.uncons
          obtain ⟨rfl, rfl⟩ := List.cons.inj z
          obtain ⟨r3, x3⟩ := Rep.frame p1 r1.nd (fun a ha => r1.off a (by simp [ha])) r2 x2
          exact ⟨i, t3, hp _ _ _ r3 (x1.trans x3)⟩
      · exact hh π τ η σ as H Hs _ _ hR hl e1 hp
theorem cut_rep {G : Gc} {Hs : Hp} {ds : List D} {vs : List V} {lo hi : Option Int} (h : RepDs G Hs ds vs) : RepDs G Hs (cutD ds lo hi) (cutV vs lo hi) := by
  unfold cutD cutV
  rw [h.length]
  exact (h.drop _).take _
theorem ok_slice (ok : Cok M S k W X) {lo hi : Option Expr} {fl fh : Option FO} {p2 : Pos} (ha : OkO M X W a fa) (hl : OkP M X W lo fl) (hh : OkP M X W hi fh) : OkO M X W (.Subscript a (.Slice lo hi none p2) pos) (fSlice fa fl fh) := by
  obtain ⟨ta, hta, hha⟩ := ha
  obtain ⟨tl, htl, hhl⟩ := okP_po hl
  obtain ⟨th, hth, hhh⟩ := okP_po hh
  refine ⟨_, pe_slice (sl_list.or sl_tup) hta htl hth, fun η σ as H Hs res Q hR hf hp => ?_⟩
  rcases bindR_inv hf with ⟨o, η1, e1, e2⟩ | ⟨c, p, η1, e1, rfl⟩
  · refine hha η σ as H Hs _ _ hR e1 fun v as' H' Hs' r1 l1 x1 => ?_
    rcases bindR_inv e2 with ⟨l, η2, e3, e4⟩ | ⟨c, p, η2, e3, rfl⟩
    · refine hhl [o.p] [some v] η1 σ as' H' Hs' _ _ r1 rfl e3 fun as2 H2 Hs2 r2 x2 => ?_
      rcases bindR_inv e4 with ⟨h, η3, e5, e6⟩ | ⟨c, p, η3, e5, rfl⟩
      · refine hhh [o.p] [some v] η2 σ as2 H2 Hs2 _ _ r2 rfl e5 fun as3 H3 Hs3 r3 x3 => ?_
        refine app_ok (r := fun vs H Q => ∀ x, vs = [x] → (rSlL X.K x l h H Q ∨ rSlT X.K x l h H Q)) (prim1 (r := fun x H Q => rSlL X.K x l h H Q ∨ rSlT X.K x l h H Q) fun d x hx v H Hs Q s t q => ?_) (os := [o]) (vs := [v]) r3 ⟨v, [], rfl, l1, rfl⟩ (x1.trans (x2.trans x3)) e6 hp v rfl
        unfold gSl at hx
        split at hx
        · obtain rfl := Option.some.inj hx
          obtain ⟨a, vs, rfl, q1, r1⟩ := t
          refine .inl ⟨a, vs, rfl, by rw [ok.K]; exact q1, fun p np => q.lst (cut_rep r1) p np⟩
        · split at hx
          · cases hx
          · rename_i hw
            obtain rfl := Option.some.inj hx
            obtain ⟨a, vs, rfl, q1, r1⟩ := t
            refine .inr ⟨a, vs, rfl, by rw [ok.K]; exact q1, by rw [← r1.length]; exact hw, fun p np => q.tup (cut_rep r1) p np⟩
        · cases hx
      · refine hhh [o.p] [some v] η2 σ as2 H2 Hs2 _ _ r2 rfl e5 fun v2 dx as3 H3 Hs3 r3 hX x3 => ?_
        exact hp v2 dx as3 H3 Hs3 r3 hX (x1.trans (x2.trans x3))
    · refine hhl [o.p] [some v] η1 σ as' H' Hs' _ _ r1 rfl e3 fun v2 dx as2 H2 Hs2 r2 hX x2 => ?_
      exact hp v2 dx as2 H2 Hs2 r2 hX (x1.trans x2)
  · exact hha η σ as H Hs _ _ hR e1 hp
end
end Wp
end
section
set_option Elab.async false
set_option linter.all false
set_option maxRecDepth 100000
/-! WpP: built-in functions. -/
namespace Wp
open PySem PySem.Spec PyProof.Rows L2

section
variable {M : Md} {S : Sc} {k : Nat} {W : WX} {X : Cx} {a b c e : Expr} {es : List Expr} {fa fb fc : FO} {g : FL} {pos p : Pos} {x : Str} {id : String} {r : List V → Hp → VK → Prop} {q : List D → Option Val}
/-- a built-in function that the boot knows under the name x -/
structure Bi (M : Md) (S : Sc) (x : Str) (v : Value) : Prop where
  gl : S.sc.names.lookup x = some .globalImplicit
  mg : M.mg x = none
  bo : bootBuiltins x = some v
  nn : x ≠ "__name__"
  nd : (x == ("__debug__" : Str)) = false
theorem ok_bi (ok : Cok M S k W X) (B : Bi M S x (.builtin id)) (hc : CallR X (.builtin id) r) (pr : PrimOk M.G r q) (ha : OkL M X W (e :: es) g) (hs : (e :: es).all noStar = true) : OkO M X W (.Call (.Name x p) (e :: es) [] pos) (fn g q) := by
  rw [List.all_cons, Bool.and_eq_true] at hs
  refine okN ha pr fun t ht => ?_
  exact pe_callB hc (gl_ok ok B.gl) (by have := ok.md; rw [← B.mg, ← this]; rfl) B.bo ht B.nn B.nd (star_cons hs.1) (star_plain hs.2)
theorem ok_ty (ok : Cok M S k W X) (B : Bi M S x (.type id)) (hc : CallR X (.type id) r) (pr : PrimOk M.G r q) (ha : OkL M X W (e :: es) g) (hs : (e :: es).all noStar = true) : OkO M X W (.Call (.Name x p) (e :: es) [] pos) (fn g q) := by
  rw [List.all_cons, Bool.and_eq_true] at hs
  refine okN ha pr fun t ht => ?_
  exact pe_callTy hc (gl_ok ok B.gl) (by have := ok.md; rw [← B.mg, ← this]; rfl) B.bo ht B.nn B.nd (star_cons hs.1) (star_plain hs.2)

/-! ### len -/
def gLen : D → Option Val
  | .lst xs => some (.sh (.int xs.length))
  | .tup xs => some (.sh (.int xs.length))
  | .str x => if x.length ≤ sizeLine then some (.sh (.int x.length)) else none
  | .dict ks _ => some (.sh (.int ks.length))
  | _ => none
def rLen2 (K : PySem.W.Frag) : List V → Hp → VK → Prop := fun xs H Q => (∃ x n, xs = [x] ∧ LenV K x H n ∧ Q (.int n) H) ∨ ∃ a kvs, xs = [V.ref a] ∧ Rd H a (.dK kvs) ∧ Q (.int kvs.length) H
theorem call_len2 : CallR X (.builtin "len") (rLen2 X.K) := by
  refine call_len.or fun pins s σ H xs us Q I r h => ?_
  obtain ⟨a, kvs, rfl, ha, q⟩ := h
  obtain ⟨u, rfl, ru⟩ := vals1 r
  cases ru
  exact d_len I ha fun t s' I' => ⟨.int kvs.length, H, I', ⟨t, rfl⟩, q⟩
theorem p_len {G : Gc} : P1 G (fun v => rLen2 G.K [v]) gLen := fun d x hx v H Hs Q s t q => by
  unfold gLen at hx
  split at hx
  · obtain rfl := Option.some.inj hx
    obtain ⟨a, vs, rfl, q1, r1⟩ := t
    exact .inl ⟨_, vs.length, rfl, .inl ⟨vs, q1, rfl⟩, by rw [← r1.length]; exact q.int⟩
  · obtain rfl := Option.some.inj hx
    obtain ⟨a, vs, rfl, q1, r1⟩ := t
    exact .inl ⟨_, vs.length, rfl, .inr ⟨vs, q1, rfl⟩, by rw [← r1.length]; exact q.int⟩
  · split at hx
    · obtain rfl := Option.some.inj hx
      obtain rfl := t
      exact .inl ⟨_, _, rfl, ⟨by assumption, rfl⟩, q.int⟩
    · cases hx
  · obtain rfl := Option.some.inj hx
    obtain ⟨a, vs, rfl, q1, l, r1⟩ := t
    refine .inr ⟨a, _, rfl, q1, ?_⟩
    rw [List.length_zip, ← l, Nat.min_self]
    exact q.int
  · cases hx
theorem ok_len (ok : Cok M S k W X) (B : Bi M S x (.builtin "len")) (ha : OkL M X W [a] g) (hs : [a].all noStar = true) : OkO M X W (.Call (.Name x p) [a] [] pos) (fn g (p1 gLen)) := by
  refine ok_bi ok B (by rw [show M.G.K = X.K from ok.K.symm]; exact call_len2) (primN p_len) ha hs

/-! ### ints -/
def gSum : D → Option Val
  | .lst xs => (intsOf xs).map fun ns => .sh (.int ns.sum)
  | _ => none
theorem p_sum {G : Gc} : P1 G (fun v => rSum G.K [v]) gSum := fun d x hx v H Hs Q s t q => by
  unfold gSum at hx
  split at hx
  · simp only [Option.map_eq_some_iff] at hx
    obtain ⟨ns, e1, rfl⟩ := hx
    rw [intsOf_inv e1] at t
    obtain ⟨a, vs, rfl, q1, r1⟩ := t
    rw [r1.ints] at q1
    exact ⟨a, ns, rfl, q1, q.int⟩
  · cases hx
theorem ok_sum (ok : Cok M S k W X) (B : Bi M S x (.builtin "sum")) (ha : OkL M X W [a] g) (hs : [a].all noStar = true) : OkO M X W (.Call (.Name x p) [a] [] pos) (fn g (p1 gSum)) := by
  refine ok_bi ok B (by rw [show M.G.K = X.K from ok.K.symm]; exact cr_sum ok.calm) (primN p_sum) ha hs
def gMx2 : D → D → Option Val
  | .int i, .int j => some (.sh (.int (max i j)))
  | _, _ => none
def gMn2 : D → D → Option Val
  | .int i, .int j => some (.sh (.int (min i j)))
  | _, _ => none
def rMx2 : List V → Hp → VK → Prop := fun xs H Q => ∃ i j, xs = [.int i, .int j] ∧ Q (.int (if j > i then j else i)) H
def rMn2 : List V → Hp → VK → Prop := fun xs H Q => ∃ i j, xs = [.int i, .int j] ∧ Q (.int (if j < i then j else i)) H
theorem p_mx2 {G : Gc} : P2 G (fun v u => rMx2 [v, u]) gMx2 := fun d e x hx v u H Hs Q s t1 t2 q => by
  unfold gMx2 at hx
  split at hx
  · rename_i i j
    obtain rfl := Option.some.inj hx
    obtain rfl := t1
    obtain rfl := t2
    refine ⟨i, j, rfl, ?_⟩
    have : (if j > i then j else i) = max i j := by split <;> omega
    rw [this]
    exact q.int
  · cases hx
theorem p_mn2 {G : Gc} : P2 G (fun v u => rMn2 [v, u]) gMn2 := fun d e x hx v u H Hs Q s t1 t2 q => by
  unfold gMn2 at hx
  split at hx
  · rename_i i j
    obtain rfl := Option.some.inj hx
    obtain rfl := t1
    obtain rfl := t2
    refine ⟨i, j, rfl, ?_⟩
    have : (if j < i then j else i) = min i j := by split <;> omega
    rw [this]
    exact q.int
  · cases hx
theorem ok_max2 (ok : Cok M S k W X) (B : Bi M S x (.builtin "max")) (ha : OkL M X W [a, b] g) (hs : [a, b].all noStar = true) : OkO M X W (.Call (.Name x p) [a, b] [] pos) (fn g (p2 gMx2)) :=
  ok_bi ok B (call_max2 ok.calm) (primN2 p_mx2) ha hs
theorem ok_min2 (ok : Cok M S k W X) (B : Bi M S x (.builtin "min")) (ha : OkL M X W [a, b] g) (hs : [a, b].all noStar = true) : OkO M X W (.Call (.Name x p) [a, b] [] pos) (fn g (p2 gMn2)) :=
  ok_bi ok B (call_min2 ok.calm) (primN2 p_mn2) ha hs
def maxI : List Int → Option Int
  | [] => none
  | n :: ns => some (ns.foldl max n)
def minI : List Int → Option Int
  | [] => none
  | n :: ns => some (ns.foldl min n)
theorem foldl_max (ns : List Int) : ∀ n : Int, (ns.foldl max n = n ∨ ns.foldl max n ∈ ns) ∧ n ≤ ns.foldl max n ∧ ∀ y ∈ ns, y ≤ ns.foldl max n := by
  induction ns with
  | nil => intro n; simp
  | cons m ns ih =>
    intro n
    obtain ⟨h1, h2, h3⟩ := ih (max n m)
    simp only [List.foldl_cons, List.mem_cons]
    refine ⟨?_, by omega, ?_⟩
    · rcases h1 with z | z
      · rcases Int.le_total n m with y | y
        · right; left; rw [z]; omega
        · left; rw [z]; omega
      · right; right; exact z
    · rintro y (rfl | hy)
      · omega
      · exact h3 y hy
theorem foldl_min (ns : List Int) : ∀ n : Int, (ns.foldl min n = n ∨ ns.foldl min n ∈ ns) ∧ ns.foldl min n ≤ n ∧ ∀ y ∈ ns, ns.foldl min n ≤ y := by
  induction ns with
  | nil => intro n; simp
  | cons m ns ih =>
    intro n
    obtain ⟨h1, h2, h3⟩ := ih (min n m)
    simp only [List.foldl_cons, List.mem_cons]
    refine ⟨?_, by omega, ?_⟩
    · rcases h1 with z | z
      · rcases Int.le_total n m with y | y
        · left; rw [z]; omega
        · right; left; rw [z]; omega
      · right; right; exact z
    · rintro y (rfl | hy)
      · omega
      · exact h3 y hy
theorem maxI_spec {ns : List Int} {m : Int} : maxI ns = some m ↔ m ∈ ns ∧ ∀ y ∈ ns, y ≤ m := by
  cases ns with
  | nil => simp [maxI]
  | cons n ns =>
    obtain ⟨h1, h2, h3⟩ := foldl_max ns n
    simp only [maxI, Option.some.injEq, List.mem_cons, forall_eq_or_imp]
    constructor
    · rintro rfl
      exact ⟨h1, h2, h3⟩
    · rintro ⟨h4, h5, h6⟩
      have l1 : ns.foldl max n ≤ m := by rcases h1 with z | z; · omega
                                         · exact h6 _ z
      have l2 : m ≤ ns.foldl max n := by rcases h4 with rfl | z; · exact h2
                                         · exact h3 _ z
      omega
theorem minI_spec {ns : List Int} {m : Int} : minI ns = some m ↔ m ∈ ns ∧ ∀ y ∈ ns, m ≤ y := by
  cases ns with
  | nil => simp [minI]
  | cons n ns =>
    obtain ⟨h1, h2, h3⟩ := foldl_min ns n
    simp only [minI, Option.some.injEq, List.mem_cons, forall_eq_or_imp]
    constructor
    · rintro rfl
      exact ⟨h1, h2, h3⟩
    · rintro ⟨h4, h5, h6⟩
      have l1 : m ≤ ns.foldl min n := by rcases h1 with z | z; · omega
                                         · exact h6 _ z
      have l2 : ns.foldl min n ≤ m := by rcases h4 with rfl | z; · exact h2
                                         · exact h3 _ z
      omega
def gMxL : D → Option Val
  | .lst xs => (intsOf xs).bind fun ns => (maxI ns).map fun m => .sh (.int m)
  | _ => none
def gMnL : D → Option Val
  | .lst xs => (intsOf xs).bind fun ns => (minI ns).map fun m => .sh (.int m)
  | _ => none
theorem p_mxL {G : Gc} : P1 G (fun v => rMax G.K [v]) gMxL := fun d x hx v H Hs Q s t q => by
  unfold gMxL at hx
  split at hx
  · simp only [Option.bind_eq_some_iff, Option.map_eq_some_iff] at hx
    obtain ⟨ns, e1, m, e2, rfl⟩ := hx
    rw [intsOf_inv e1] at t
    obtain ⟨a, vs, rfl, q1, r1⟩ := t
    rw [r1.ints] at q1
    obtain ⟨m1, m2⟩ := maxI_spec.mp e2
    refine ⟨a, ns, rfl, q1, List.length_pos_of_mem m1, fun m' h1 h2 => ?_⟩
    have : m' = m := by have a1 := m2 _ h1; have a2 := h2 _ m1; omega
    rw [this]
    exact q.int
  · cases hx
theorem p_mnL {G : Gc} : P1 G (fun v => rMin G.K [v]) gMnL := fun d x hx v H Hs Q s t q => by
  unfold gMnL at hx
  split at hx
  · simp only [Option.bind_eq_some_iff, Option.map_eq_some_iff] at hx
    obtain ⟨ns, e1, m, e2, rfl⟩ := hx
    rw [intsOf_inv e1] at t
    obtain ⟨a, vs, rfl, q1, r1⟩ := t
    rw [r1.ints] at q1
    obtain ⟨m1, m2⟩ := minI_spec.mp e2
    refine ⟨a, ns, rfl, q1, List.length_pos_of_mem m1, fun m' h1 h2 => ?_⟩
    have : m' = m := by have a1 := m2 _ h1; have a2 := h2 _ m1; omega
    rw [this]
    exact q.int
  · cases hx
theorem ok_maxL (ok : Cok M S k W X) (B : Bi M S x (.builtin "max")) (ha : OkL M X W [a] g) (hs : [a].all noStar = true) : OkO M X W (.Call (.Name x p) [a] [] pos) (fn g (p1 gMxL)) :=
  ok_bi ok B (by rw [show M.G.K = X.K from ok.K.symm]; exact cr_max ok.calm) (primN p_mxL) ha hs
theorem ok_minL (ok : Cok M S k W X) (B : Bi M S x (.builtin "min")) (ha : OkL M X W [a] g) (hs : [a].all noStar = true) : OkO M X W (.Call (.Name x p) [a] [] pos) (fn g (p1 gMnL)) :=
  ok_bi ok B (by rw [show M.G.K = X.K from ok.K.symm]; exact cr_min ok.calm) (primN p_mnL) ha hs
def gInt : D → Option Val
  | .int i => some (.sh (.int i))
  | .bl b => some (.sh (.int (if b then 1 else 0)))
  | _ => none
def rInt1 : List V → Hp → VK → Prop := fun xs H Q => (∃ i, xs = [.int i] ∧ Q (.int i) H) ∨ ∃ k, xs = [.bl k] ∧ Q (.int (if k then 1 else 0)) H
theorem p_int {G : Gc} : P1 G (fun v => rInt1 [v]) gInt := fun d x hx v H Hs Q s t q => by
  unfold gInt at hx
  split at hx
  · obtain rfl := Option.some.inj hx
    obtain rfl := t
    exact .inl ⟨_, rfl, q.int⟩
  · obtain rfl := Option.some.inj hx
    obtain rfl := t
    exact .inr ⟨_, rfl, q.int⟩
  · cases hx
theorem ok_int (ok : Cok M S k W X) (B : Bi M S x (.type "int")) (ha : OkL M X W [a] g) (hs : [a].all noStar = true) : OkO M X W (.Call (.Name x p) [a] [] pos) (fn g (p1 gInt)) :=
  ok_ty ok B call_int1 (primN p_int) ha hs
def gAbs : D → Option Val
  | .int i => some (.sh (.int (if i < 0 then -i else i)))
  | _ => none
def rAbs1 : List V → Hp → VK → Prop := fun xs H Q => ∃ i, xs = [.int i] ∧ Q (.int (if i < 0 then -i else i)) H
theorem p_abs {G : Gc} : P1 G (fun v => rAbs1 [v]) gAbs := fun d x hx v H Hs Q s t q => by
  unfold gAbs at hx
  split at hx
  · obtain rfl := Option.some.inj hx
    obtain rfl := t
    exact ⟨_, rfl, q.int⟩
  · cases hx
theorem ok_abs (ok : Cok M S k W X) (B : Bi M S x (.builtin "abs")) (ha : OkL M X W [a] g) (hs : [a].all noStar = true) : OkO M X W (.Call (.Name x p) [a] [] pos) (fn g (p1 gAbs)) :=
  ok_bi ok B call_abs (primN p_abs) ha hs
def gBits : D → Option Val
  | .int i => some (.sh (.int (Builtin.Int.intBits i : Nat)))
  | _ => none
theorem ok_bits {apos : Pos} (ha : OkO M X W a fa) (hb : baseOk a = true) (hl : (apos.endLine == pos.line) = true) : OkO M X W (.Call (.Attribute a "bit_length" apos) [] [] pos) (f1 fa (p1 gBits)) := by
  refine ok1 (r := fun x H Q => ∃ i, x = .int i ∧ Q (.int (Builtin.Int.intBits i : Nat)) H) ha (prim1 fun d x hx v H Hs Q s t q => ?_) fun _ h1 => pe_bits h1 (base_ok hb) hl
  unfold gBits at hx
  split at hx
  · obtain rfl := Option.some.inj hx
    exact ⟨_, t, q.int⟩
  · cases hx

/-! ### sorted -/
def insI (n : Int) : List Int → List Int
  | [] => [n]
  | m :: ms => if n ≤ m then n :: m :: ms else m :: insI n ms
def sortI : List Int → List Int
  | [] => []
  | n :: ns => insI n (sortI ns)
theorem insI_perm (n : Int) : ∀ ns : List Int, (insI n ns).Perm (n :: ns)
  | [] => .refl _
  | m :: ms => by
    unfold insI
    split
    · exact .refl _
    · exact ((insI_perm n ms).cons m).trans (.swap n m ms)
theorem sortI_perm : ∀ ns : List Int, (sortI ns).Perm ns
  | [] => .refl _
  | n :: ns => (insI_perm n _).trans ((sortI_perm ns).cons n)
theorem insI_sorted (n : Int) : ∀ ns : List Int, ns.Pairwise (· ≤ ·) → (insI n ns).Pairwise (· ≤ ·)
  | [], _ => by simp [insI]
  | m :: ms, h => by
    obtain ⟨h1, h2⟩ := List.pairwise_cons.mp h
    unfold insI
    split
    · refine List.pairwise_cons.mpr ⟨fun y hy => ?_, h⟩
      rcases List.mem_cons.mp hy with rfl | hy
      · assumption
      · have := h1 y hy
        omega
    · refine List.pairwise_cons.mpr ⟨fun y hy => ?_, insI_sorted n ms h2⟩
      rcases List.mem_cons.mp ((insI_perm n ms).mem_iff.mp hy) with rfl | hy
      · omega
      · exact h1 y hy
theorem sortI_sorted : ∀ ns : List Int, (sortI ns).Pairwise (· ≤ ·)
  | [] => .nil
  | n :: ns => insI_sorted n _ (sortI_sorted ns)
theorem sorted_eq : ∀ {xs ys : List Int}, xs.Perm ys → xs.Pairwise (· ≤ ·) → ys.Pairwise (· ≤ ·) → xs = ys
  | [], ys, p, _, _ => (List.nil_perm.mp p).symm
  | x :: xs, [], p, _, _ => by have := p.length_eq; simp at this
  | x :: xs, y :: ys, p, h1, h2 => by
    obtain ⟨a1, a2⟩ := List.pairwise_cons.mp h1
    obtain ⟨b1, b2⟩ := List.pairwise_cons.mp h2
    have e : x = y := by
      have hx : x ∈ y :: ys := p.mem_iff.mp (List.mem_cons_self ..)
      have hy : y ∈ x :: xs := p.mem_iff.mpr (List.mem_cons_self ..)
      rcases List.mem_cons.mp hx with z | z
      · exact z
      · rcases List.mem_cons.mp hy with w | w
        · exact w.symm
        · have u1 := b1 x z
          have u2 := a1 y w
          omega
    subst e
    rw [sorted_eq (List.perm_cons x |>.mp p) a2 b2]
def gSorted : D → Option Val
  | .lst xs => (intsOf xs).map fun ns => .ol ((sortI ns).map fun n => .sh (.int n))
  | _ => none
theorem p_sorted {G : Gc} : P1 G (fun v => rSortedI G.K [v]) gSorted := fun d x hx v H Hs Q s t q => by
  unfold gSorted at hx
  split at hx
  · simp only [Option.map_eq_some_iff] at hx
    obtain ⟨ns, e1, rfl⟩ := hx
    rw [intsOf_inv e1] at t
    obtain ⟨a, vs, rfl, q1, r1⟩ := t
    rw [r1.ints] at q1
    refine ⟨a, ns, rfl, q1, fun ns' p h1 h2 np => ?_⟩
    rw [sorted_eq (h1.trans (sortI_perm ns).symm) h2 (sortI_sorted ns)]
    have e2 : ((sortI ns).map fun n => Val.sh (.int n)) = ((sortI ns).map D.int).map Val.sh := by rw [List.map_map]; rfl
    rw [e2] at q
    exact q.lst (RepDs.ofInts _) p np
  · cases hx
theorem ok_sorted (ok : Cok M S k W X) (B : Bi M S x (.builtin "sorted")) (ha : OkL M X W [a] g) (hs : [a].all noStar = true) : OkO M X W (.Call (.Name x p) [a] [] pos) (fn g (p1 gSorted)) :=
  ok_bi ok B (by rw [show M.G.K = X.K from ok.K.symm]; exact cr_sortedI) (primN p_sorted) ha hs

/-! ### list, tuple -/
def gList : D → Option Val
  | .lst xs => some (.ol (xs.map .sh))
  | .tup xs => some (.ol (xs.map .sh))
  | _ => none
def rListOf (K : PySem.W.Frag) : List V → Hp → VK → Prop := fun xs H Q => ∃ p ys, xs = [.ref p] ∧ (SqL K H p ys ∨ SqT K H p ys) ∧ ∀ l, H l = none → Q (.ref l) (upd H l (.lst ys))
theorem p_list {G : Gc} : P1 G (fun v => rListOf G.K [v]) gList := fun d x hx v H Hs Q s t q => by
  unfold gList at hx
  split at hx
  · obtain rfl := Option.some.inj hx
    obtain ⟨a, vs, rfl, q1, r1⟩ := t
    exact ⟨a, vs, rfl, .inl q1, fun l nl => q.lst r1 l nl⟩
  · obtain rfl := Option.some.inj hx
    obtain ⟨a, vs, rfl, q1, r1⟩ := t
    exact ⟨a, vs, rfl, .inr q1, fun l nl => q.lst r1 l nl⟩
  · cases hx
theorem ok_listOf (ok : Cok M S k W X) (B : Bi M S x (.type "list")) (ha : OkL M X W [a] g) (hs : [a].all noStar = true) : OkO M X W (.Call (.Name x p) [a] [] pos) (fn g (p1 gList)) :=
  ok_ty ok B (by rw [show M.G.K = X.K from ok.K.symm]; exact call_list_of) (primN p_list) ha hs
def gTuple : D → Option Val
  | .lst xs => some (.ot (xs.map .sh))
  | _ => none
def rTupOf (K : PySem.W.Frag) : List V → Hp → VK → Prop := fun xs H Q => ∃ p ys, xs = [.ref p] ∧ ((SqL K H p ys ∧ ∀ l, H l = none → Q (.ref l) (upd H l (.tup ys))) ∨ (SqT K H p ys ∧ Q (.ref p) H))
theorem p_tuple {G : Gc} : P1 G (fun v => rTupOf G.K [v]) gTuple := fun d x hx v H Hs Q s t q => by
  unfold gTuple at hx
  split at hx
  · obtain rfl := Option.some.inj hx
    obtain ⟨a, vs, rfl, q1, r1⟩ := t
    exact ⟨a, vs, rfl, .inl ⟨q1, fun l nl => q.tup r1 l nl⟩⟩
  · cases hx
theorem ok_tupleOf (ok : Cok M S k W X) (B : Bi M S x (.type "tuple")) (ha : OkL M X W [a] g) (hs : [a].all noStar = true) : OkO M X W (.Call (.Name x p) [a] [] pos) (fn g (p1 gTuple)) :=
  ok_ty ok B (by rw [show M.G.K = X.K from ok.K.symm]; exact call_tuple_of) (primN p_tuple) ha hs
end
end Wp
end
section
set_option Elab.async false
set_option linter.all false
set_option maxRecDepth 100000
/-! WpQ: repr, isinstance, an own ==. -/
namespace Wp
open PySem PySem.Spec PyProof.Rows L2

section
variable {M : Md} {S : Sc} {k : Nat} {W : WX} {X : Cx} {a b c e : Expr} {es : List Expr} {fa fb fc : FO} {g : FL} {pos p : Pos} {x : Str}
/-! ### repr -/
def showOk (p : PyData) : Bool := p.showable && decide (p.depth ≤ 60) && decide (p.shown.length ≤ sizeLine)
def gRepr (d : D) : Option Val := (toPy d).bind fun p => if showOk p then some (.sh (.str p.shown)) else none
mutual
theorem noDict_of : ∀ {d : D} {p : PyData}, toPy d = some p → p.hasDict = false
  | .non, p, h => by simp only [toPy, Option.some.injEq] at h; subst h; simp [PyData.hasDict]
  | .bl _, p, h => by simp only [toPy, Option.some.injEq] at h; subst h; simp [PyData.hasDict]
  | .int _, p, h => by simp only [toPy, Option.some.injEq] at h; subst h; simp [PyData.hasDict]
  | .str _, p, h => by simp only [toPy, Option.some.injEq] at h; subst h; simp [PyData.hasDict]
  | .lst xs, p, h => by
    simp only [toPy, Option.map_eq_some_iff] at h
    obtain ⟨ps, h1, rfl⟩ := h
    simp only [PyData.hasDict]
    exact noDicts_of h1
  | .tup xs, p, h => by
    simp only [toPy, Option.map_eq_some_iff] at h
    obtain ⟨ps, h1, rfl⟩ := h
    simp only [PyData.hasDict]
    exact noDicts_of h1
  | .dict _ _, p, h => by simp [toPy] at h
  | .obj _ _ _, p, h => by simp [toPy] at h
theorem noDicts_of : ∀ {ds : List D} {ps : List PyData}, toPys ds = some ps → PyData.hasDictAll ps = false
  | [], ps, h => by simp only [toPys, Option.some.injEq] at h; subst h; simp [PyData.hasDictAll]
  | d :: ds, ps, h => by
    simp only [toPys, Option.bind_eq_some_iff, Option.some.injEq] at h
    obtain ⟨p1, e1, p2, e2, rfl⟩ := h
    simp only [PyData.hasDictAll, noDict_of e1, noDicts_of e2, Bool.or_self]
end
def rReprD (K : PySem.W.Frag) : List V → Hp → VK → Prop := fun xs H Q => ∃ v p, xs = [v] ∧ L2.Dp K H v p ∧ p.hasDict = false ∧ showOk p = true ∧ Q (.str p.shown) H
theorem call_reprD (gd : X.A.guards = some []) (hu : X.A.units + 65 < cLine) : CallR X (.builtin "repr") (rReprD X.K) := by
  intro pins s σ H xs us Q I r h
  obtain ⟨v, p, rfl, hd, nd, sh, q⟩ := h
  obtain ⟨u, rfl, ru⟩ := vals1 r
  unfold showOk at sh
  simp only [Bool.and_eq_true, decide_eq_true_eq] at sh
  obtain ⟨⟨s1, s2⟩, s3⟩ := sh
  have fin : ∀ (h' : Heap) (u tk : Nat), (∀ b o, s.heap.get? b = some o → h'.get? b = some o) → EP X pins σ Q (.str p.shown u) { s with heap := h', toks := tk } := fun h' u tk hk => ⟨.str p.shown, H, I.kept (t' := tk) hk, ⟨u, rfl⟩, q⟩
  obtain ⟨as, rd⟩ := L2.Dp.reads I p v u hd ru
  cases hd with
  | non =>
    cases ru
    exact PySem.P.repr_of_none (fin s.heap _ _ fun _ _ e => e)
  | bl b =>
    cases ru
    cases b with
    | false =>
      have e : PyData.shown (.bool false) = Str.ofString "False" := by simp [PyData.shown]
      rw [e] at fin
      exact PySem.P.repr_of_bool (fin s.heap _ _ fun _ _ e => e)
    | true =>
      have e : PyData.shown (.bool true) = Str.ofString "True" := by simp [PyData.shown]
      rw [e] at fin
      exact PySem.P.repr_of_bool (fin s.heap _ _ fun _ _ e => e)
  | int i =>
    obtain ⟨t, rfl⟩ := ru
    have z : i.natAbs.log2 < 1920 := by simpa [PyData.showable] using s1
    exact PySem.P.repr_of_int z (by have e : PyData.shown (.int i) = toString i := by simp [PyData.shown]
                                    rw [e] at fin
                                    exact fin s.heap _ _ fun _ _ e => e)
  | str x =>
    obtain ⟨t, rfl⟩ := ru
    have e : PyData.shown (.str x) = reprText x := by simp [PyData.shown]
    rw [e] at fin
    exact PySem.P.repr_of_str (fin s.heap _ _ fun _ _ e => e) (by rw [← e]; exact s3)
  | lst hs ha =>
    cases ru
    exact repr_of_reads' rd s1 (fun z => by rw [nd] at z; cases z) gd (by omega) (fun _ _ e => e) (fun h' u tk hk => fin h' u tk hk) s3
  | tup hs ha =>
    cases ru
    exact repr_of_reads' rd s1 (fun z => by rw [nd] at z; cases z) gd (by omega) (fun _ _ e => e) (fun h' u tk hk => fin h' u tk hk) s3
theorem p_repr {G : Gc} : P1 G (fun v => rReprD G.K [v]) gRepr := fun d x hx v H Hs Q s t q => by
  unfold gRepr at hx
  simp only [Option.bind_eq_some_iff, Option.ite_none_right_eq_some, Option.some.injEq] at hx
  obtain ⟨p, e1, e2, rfl⟩ := hx
  exact ⟨v, p, rfl, t.dp s e1, noDict_of e1, e2, q.str⟩
theorem ok_repr (ok : Cok M S k W X) (B : Bi M S x (.builtin "repr")) (ha : OkL M X W [a] g) (hs : [a].all noStar = true) : OkO M X W (.Call (.Name x p) [a] [] pos) (fn g (p1 gRepr)) := by
  refine ok_bi ok B (by rw [show M.G.K = X.K from ok.K.symm]; exact call_reprD ok.gd ok.un) (primN p_repr) ha hs

/-! ### isinstance -/
def kindS : D → String
  | .non => "NoneType"
  | .bl _ => "bool"
  | .int _ => "int"
  | .str _ => "str"
  | .tup _ => "tuple"
  | .lst _ => "list"
  | .dict _ _ => "dict"
  | .obj _ _ _ => "object"
/-- what isinstance tells: of built-in kinds, of own classes -/
def isT (bt : List (String × Bool)) (ct : List (Nat × Bool)) : D → Option Bool
  | .obj c _ _ => ct.lookup c
  | d => bt.lookup (kindS d)
structure IsOk (M : Md) (u : Value) (bt : List (String × Bool)) (ct : List (Nat × Bool)) : Prop where
  b : ∀ T r, bt.lookup T = some r → PySem.W.kitOne M.K (.type T) u = some r
  c : ∀ n r, ct.lookup n = some r → C8.InsC M.K (M.C n) ∧ PySem.W.kitOne M.K (.ref (M.C n)) u = some r
def gIsi (bt : List (String × Bool)) (ct : List (Nat × Bool)) : D → Option Val := fun d => (isT bt ct d).map fun r => .sh (.bl r)
theorem isT_ok {u : Value} {bt : List (String × Bool)} {ct : List (Nat × Bool)} (I : IsOk M u bt ct) {d : D} {r : Bool} {v : V} {H Hs : Hp} (h : isT bt ct d = some r) (t : RepT M.G H Hs d v) : ∃ ty, TyX M.K H v ty ∧ PySem.W.kitOne M.K ty u = some r := by
  cases d with
  | non => exact ⟨_, by rw [show v = .non from t]; exact .base .non, I.b _ _ h⟩
  | bl b => exact ⟨_, by rw [show v = .bl b from t]; exact .base (.bl b), I.b _ _ h⟩
  | int i => exact ⟨_, by rw [show v = .int i from t]; exact .base (.int i), I.b _ _ h⟩
  | str z => exact ⟨_, by rw [show v = .str z from t]; exact .base (.str z), I.b _ _ h⟩
  | tup xs =>
    obtain ⟨a, vs, rfl, q, _⟩ := t
    refine ⟨.type "tuple", ?_, I.b _ _ h⟩
    rcases q with (q | ⟨o, q⟩) | ⟨o, its, n, q1, q2, _⟩
    · exact .base (.tup q)
    · exact .fTuple q
    · exact .kTuple q1 q2
  | lst xs =>
    obtain ⟨a, vs, rfl, q, _⟩ := t
    refine ⟨.type "list", ?_, I.b _ _ h⟩
    rcases q with (q | ⟨o, q⟩) | ⟨o, its, n, q1, q2, _⟩
    · exact .base (.lst q)
    · exact .base (.frz q)
    · exact .kList q1 q2
  | dict ks xs =>
    obtain ⟨a, vs, rfl, q, _⟩ := t
    refine ⟨.type "dict", ?_, I.b _ _ h⟩
    rcases q with q | ⟨o, q⟩
    · exact .base (.dK q)
    · exact .fDict q
  | obj c fs xs =>
    obtain ⟨a, dx, vs, rfl, q, _⟩ := t
    obtain ⟨i, e⟩ := I.c _ _ h
    exact ⟨_, .base (.ins q i.cl i.ha i.hn i.htk i.hm), e⟩
theorem ok_isi {T : Expr} {cv : V} {u : Value} {bt : List (String × Bool)} {ct : List (Nat × Bool)} (ok : Cok M S k W X) (B : Bi M S x (.builtin "isinstance")) (hT : PE X T (tC cv)) (hc : ClsV cv u) (I : IsOk M u bt ct) (ha : OkO M X W a fa) (hs : noStar a = true) (hsT : noStar T = true) :
    OkO M X W (.Call (.Name x p) [a, T] [] pos) (f1 fa (p1 (gIsi bt ct))) := by
  refine ok1 (r := fun v H Q => rIsi M.K [v, cv] H Q) ha (prim1 fun d y hx v H Hs Q s t q => ?_) fun ta ht => ?_
  · unfold gIsi at hx
    simp only [Option.map_eq_some_iff] at hx
    obtain ⟨r, hr, rfl⟩ := hx
    obtain ⟨ty, h1, h2⟩ := isT_ok I hr t
    exact ⟨v, cv, ty, u, r, rfl, hc, h1, h2, q.bl⟩
  · have hp : PA X [a, T] (tCons ta (tCons (tC cv) tNil)) := pa_cons ht (pa_cons hT pa_nil (star_cons hsT)) (star_cons hs)
    have := pe_callB (pos := pos) (p := p) (call_isi (X := X)) (gl_ok ok B.gl) (by have := ok.md; rw [← B.mg, ← this]; rfl) B.bo hp B.nn B.nd (star_cons hs) (star_plain (by simp [hsT]))
    rw [← ok.K]
    exact this

/-! ### an own == -/
/-- a class's own ==, by a def that raises nothing -/
def EqOk (M : Md) (k : Nat) (mt : Nat → Option Fi) : Prop := ∀ c i, mt c = some i → ∃ f, PySem.W.findIn M.K (.ref (M.C c)) "__eq__" = some (some (.ref f)) ∧ PySem.W.isFn M.K (.ref f) = true ∧ Cb M k f i.F i.n i.df ∧ i.df.length + 2 - i.n ≤ i.df.length
def fEqO (mt : Nat → Option Fi) (fa fb : FO) : FO := fun η => bindR (fa η) fun o η1 => bindR (fb η1) fun o2 η2 => match o.cls η2, o2.cls η2 with
  | some (c, _), some (c2, _) => if c = c2 then (match mt c with
    | some i => (match callR i.n i.ms i.F (i.dv 2) [o, o2] η2 with
      | some (.ok (.pend (.sh (.bl b))) η3) => okR (.pend (.sh (.bl b))) η3
      | _ => none)
    | none => none) else none
  | _, _ => none
def rEqO (X : Cx) (k : Nat) : R2 := fun x y H Q => ∃ a b C f fd ps sp dvs ds dx dy fs gs, x = .ref a ∧ y = .ref b ∧ H a = some (.ins C dx fs) ∧ H b = some (.ins C dy gs) ∧ PySem.W.findIn X.K (.ref C) "__eq__" = some (some (.ref f)) ∧ PySem.W.isFn X.K (.ref f) = true ∧
  FnG X.prog X.w X.K X.mg X.base k f fd ps sp ∧ L2.Binds X.K fd ps ds ∧ Vals dvs ds ∧ sp (.ref a :: .ref b :: dvs) H (fun v H' => (∃ r, v = .bl r) ∧ Q v H') (fun _ _ _ => False)
theorem op_eqO (gd : X.A.guards = some []) (hr : Room k X.A) : OpR X (compareOp .Eq) (rEqO X k) := by
  intro pins s σ H x y v u Q I rx ry h
  obtain ⟨a, b, C, f, fd, ps, sp, dvs, ds, dx, dy, fs, gs, rfl, rfl, ha, hb, hs, hf, F, hbi, hd, hq⟩ := h
  cases rx
  cases ry
  obtain ⟨mA, J, _⟩ := ins_get I.hok ha
  obtain ⟨mB, J', _⟩ := ins_get I.hok hb
  obtain ⟨od, J, _⟩ := J.look
  obtain ⟨od', J', _⟩ := J'.look
  obtain ⟨m, hF⟩ := I.fr
  show wpAny (model X.prog X.w) X.A (richCompare .Eq (.ref a) (.ref b)) (EP X pins σ Q) X.xe s
  refine PySem.W.cmp_K (op := .Eq) (tb := .ref C) hr.units0 hF I.ok.mod.kin J J'.type (by simp [PySem.W.notFirst]) hs hf ?_
  have rr : Vals (V.ref a :: V.ref b :: dvs) (Value.ref a :: Value.ref b :: ds) := .cons rfl (.cons rfl hd)
  have hl : ([Value.ref a, Value.ref b] ++ ds).length = ps.length := by
    have := F.len _ _ _ _ hq
    rw [rr.length] at this
    exact this
  have run := F.run X.A X.stack s H ⟨[.ref a, .ref b], []⟩ _ _ _ _ gd hr I.env0 (hbi s [.ref a, .ref b] I.kIn hl) rr hq
  refine wpAny_call (codeAny_mono run fun res s' hres => ?_)
  rcases res with er | fl
  · obtain ⟨_, _, _, _, _, _, _, _, _, _, _, _, z⟩ := hres
    exact z.elim
  · cases fl with
    | ret w =>
      obtain ⟨z, H', I', rz, ⟨r, ez⟩, q⟩ := I.after hres
      subst ez
      cases rz
      exact ⟨.bl r, H', I', rfl, q⟩
    | _ => exact hres.elim
theorem eqO_P {P : TE → Prop} {mt : Nat → Option Fi} (ok : Cok M S k W X) (hmt : EqOk M k mt) (ha : OkO M X W a fa) (hb : OkO M X W b fb)
    (he : ∀ ta tb, PE X a ta → PE X b tb → P (tOp (rEqO X k) ta tb)) : ∃ t, P t ∧ ∀ η σ as H Hs res Q, Rep M.G η σ as H Hs → fEqO mt fa fb η = some res → PostO M.G W σ as H Hs Q res → t σ H Q := by
  obtain ⟨P', w, K, mg, base, C⟩ := M
  have emd := ok.md
  simp only [mdOf, Md.mk.injEq, and_true] at emd
  obtain ⟨rfl, rfl, rfl, rfl, rfl⟩ := emd
  obtain ⟨ta, hta, hha⟩ := ha
  obtain ⟨tb, htb, hhb⟩ := hb.framed
  refine ⟨_, he ta tb hta htb, fun η σ as H Hs res Q hR hf hp => ?_⟩
  rcases bindR_inv hf with ⟨o, η1, e1, e2⟩ | ⟨c, p, η1, e1, rfl⟩
  · refine hha η σ as H Hs _ _ hR e1 fun v as' H' Hs' r1 l1 x1 => ?_
    rcases bindR_inv e2 with ⟨o2, η2, e3, e4⟩ | ⟨c, p, η2, e3, rfl⟩
    · refine hhb [o.p] [some v] η1 σ as' H' Hs' _ _ r1 rfl e3 fun v2 as2 H2 Hs2 r2 l2 x2 => ?_
      have r2 : Rep _ (o.p :: o2.p :: η2) (some v :: some v2 :: σ) as2 H2 Hs2 := r2
      cases c1 : o.cls η2 with
      | none =>
        simp only [c1] at e4
        cases e4
      | some q1 =>
        cases c2 : o2.cls η2 with
        | none =>
          simp only [c1, c2] at e4
          cases e4
        | some q2 =>
          obtain ⟨c, fs⟩ := q1
          obtain ⟨c', gs⟩ := q2
          simp only [c1, c2] at e4
          by_cases hc : c = c'
          · rw [if_pos hc] at e4
            subst hc
            cases em : mt c with
            | none =>
              rw [em] at e4
              cases e4
            | some i =>
              rw [em] at e4
              simp only at e4
              obtain ⟨f, h1, h2, cb, hle⟩ := hmt c i em
              obtain ⟨fd, ps, F, hd⟩ := cb.ex
              obtain ⟨dvs, ds, d1, d2, d3⟩ := hd _ hle
              -- the two objects
              obtain ⟨a3, r3, m3⟩ : ∃ a3, Rep _ (o.p :: η2) (some v :: σ) a3 H2 Hs2 ∧ ∀ a ∈ a3, a ∈ as2 := by
                obtain ⟨a3, m3, r3⟩ := Rep.dropMid (A := [o.p]) (τ := [some v]) r2 rfl
                exact ⟨a3, r3, m3⟩
              obtain ⟨a4, r4, m4⟩ := Rep.pop r2
              obtain ⟨a, dx, vs, rfl, ea, _⟩ := Opv.cls_ok r3 l1 c1
              obtain ⟨b, dy, us, rfl, eb, _⟩ := Opv.cls_ok r4 l2 c2
              refine ⟨a, b, _, f, fd, ps, _, dvs, ds, dx, dy, _, _, rfl, rfl, ea, eb, h1, h2, F, d3, d2, ?_⟩
              cases e5 : callR i.n i.ms i.F (i.dv 2) [o, o2] η2 with
              | none =>
                rw [e5] at e4
                cases e4
              | some rr =>
                rw [e5] at e4
                cases rr with
                | exc c' p' η' => cases e4
                | ok o3 η3 =>
                  obtain ⟨bb, rfl⟩ : ∃ bb, o3 = .pend (.sh (.bl bb)) := by
                    rcases o3 with y | j
                    · rcases y with dd | _ | _ | _ | _ <;> first | (simp at e4; done) | skip
                      cases dd <;> first | (simp at e4; done) | exact ⟨_, rfl⟩
                    · simp at e4
                  obtain rfl : res = .ok (.pend (.sh (.bl bb))) η3 := (Option.some.inj e4).symm
                  refine callR_ok (W := fun _ _ _ _ => False) d1 (os := [o, o2]) (vs := [.ref a, .ref b]) r2 ⟨_, _, rfl, l1, _, _, rfl, l2, rfl⟩ (x1.trans x2) e5 fun v' as' H' Hs' rr lk xx => ⟨⟨bb, ?_⟩, hp v' as' H' Hs' rr lk xx⟩
                  obtain ⟨w', σ', y1, y2, z1, rfl, rv, _⟩ := rr.env
                  obtain ⟨z2, rfl⟩ := List.cons.inj z1
                  obtain rfl := Option.some.inj z2
                  obtain ⟨rfl, rd⟩ := RepV.sh_iff.mp rv
                  simpa only [RepD] using rd
          · rw [if_neg hc] at e4
            cases e4
    · refine hhb [o.p] [some v] η1 σ as' H' Hs' _ _ r1 rfl e3 fun v2 dx as2 H2 Hs2 r2 hX x2 => ?_
      exact hp v2 dx as2 H2 Hs2 r2 hX (x1.trans x2)
  · exact hha η σ as H Hs _ _ hR e1 hp
theorem ok_eqO {mt : Nat → Option Fi} (ok : Cok M S k W X) (hmt : EqOk M k mt) (ha : OkO M X W a fa) (hb : OkO M X W b fb) : OkO M X W (.Compare a [.Eq] [b] pos) (fEqO mt fa fb) :=
  eqO_P ok hmt ha hb fun _ _ h1 h2 => pe_cmpR (op_eqO ok.gd ok.room) h1 h2 (nomark _)
theorem okT_eqO {mt : Nat → Option Fi} (ok : Cok M S k W X) (hmt : EqOk M k mt) (ha : OkO M X W a fa) (hb : OkO M X W b fb) : OkT M X W (.Compare a [.Eq] [b] pos) (fBl (fEqO mt fa fb)) := by
  obtain ⟨t, ⟨h1, h2⟩, hh⟩ := eqO_P (P := fun t => PE X (.Compare a [.Eq] [b] pos) t ∧ PT X (.Compare a [.Eq] [b] pos) (tTest t)) ok hmt ha hb fun _ _ h1 h2 => ⟨pe_cmpR (op_eqO ok.gd ok.room) h1 h2 (nomark _), pt_cmpR (op_eqO ok.gd ok.room) h1 h2 (nomark _)⟩
  exact okT_of ⟨t, h1, h2, hh⟩
end
end Wp
end
section
set_option Elab.async false
set_option linter.all false
set_option maxRecDepth 100000
/-! WpR: what is changed in place; stores; constants. -/
namespace Wp
open PySem PySem.Spec PyProof.Rows L2

/-! ### a list of shared items, rewritten -/
theorem RepVs.sh_nil {G : Gc} {H Hs : Hp} : ∀ {ds : List D} {vs : List V} {as : List Addr}, RepVs G H Hs (ds.map .sh) vs as → as = []
  | [], vs, as, h => (RepVs.nil_iff.mp h).2
  | d :: ds, vs, as, h => by
    rw [List.map_cons] at h
    obtain ⟨v, ws, a1, a2, rfl, rfl, p, q⟩ := h.uncons
    rw [(RepV.sh_iff.mp p).1, RepVs.sh_nil q]
    rfl
theorem Rep.mutS {G : Gc} {η : Env} {σ : L2.St} {as : List Addr} {H Hs : Hp} {i : Nat} {ds : List D} (h : Rep G η σ as H Hs) (e : η[i]? = some (some (.ol (ds.map .sh)))) : ∃ a vs, σ[i]? = some (some (.ref a)) ∧ H a = some (.lst vs) ∧ RepDs G Hs ds vs ∧
    ∀ ds' vs', RepDs G Hs ds' vs' → ∃ as', Rep G (η.set i (some (.ol (ds'.map .sh)))) σ as' (upd H a (.lst vs')) Hs ∧ Ext as H Hs as' (upd H a (.lst vs')) Hs := by
  obtain ⟨v, a1, a2, a3, ev, rfl, rv, k⟩ := h.env.at e
  simp only [RepV] at rv
  obtain ⟨a, vs, bs, rfl, rfl, ha, rs⟩ := rv
  obtain rfl := rs.sh_nil
  refine ⟨a, vs, ev, ha, rs.shs_inv, fun ds' vs' rd => ?_⟩
  have na : ∀ b ∈ a1 ++ a3, b ≠ a := fun b hb z => by
    subst z
    have nd := h.nd
    obtain ⟨n1, n2, n3⟩ := List.nodup_append.mp nd
    rcases List.mem_append.mp hb with z | z
    · exact n3 b z b (by simp) rfl
    · have := (List.nodup_cons.mp (show (b :: ([] ++ a3)).Nodup from n2)).1
      exact this (by simpa using z)
  have hsa : Hs a = none := h.off a (by simp)
  have k2 := k (upd H a (.lst vs')) Hs (some (.ol (ds'.map .sh))) (some (.ref a)) [a] ⟨_, rfl, by simp only [RepV]; exact ⟨a, vs', [], rfl, rfl, upd_same, rd.shs _⟩⟩ (fun b hb o eo => by rw [upd_ne (na b hb)]; exact eo) Le.refl
  rw [set_same ev] at k2
  refine ⟨_, ⟨fun b o eo => ?_, k2, by simpa using h.nd, fun b hb => h.off b (by simpa using hb)⟩, ⟨fun b o eo nb => ?_, Sub.refl, fun b z => .inl z, fun b hb => .inl (by simpa using hb)⟩⟩
  · have hb : b ≠ a := fun z => by
      subst z
      rw [hsa] at eo
      cases eo
    rcases h.le b o eo with z | ⟨ob, kvs, z1, z2⟩
    · exact .inl (by rw [upd_ne hb]; exact z)
    · exact .inr ⟨ob, kvs, z1, by rw [upd_ne hb]; exact z2⟩
  · rw [upd_ne (fun z => nb (by simp [z]))]
    exact eo
/-- an item, made shared -/
def escS (o : Opv) (η : Env) : Option (D × Env) := match esc1 o η with
  | some (x, η1) => some (x.d, η1)
  | none => none
theorem escS_ok {G : Gc} {o : Opv} {v : V} {η : Env} {σ : L2.St} {as : List Addr} {H Hs : Hp} {d : D} {η' : Env} (h : Rep G (o.p :: η) (some v :: σ) as H Hs) (l : o.lnk σ v) (e : escS o η = some (d, η')) :
    ∃ as' Hs', Rep G η' σ as' H Hs' ∧ Ext as H Hs as' H Hs' ∧ RepD G Hs' d v := by
  unfold escS at e
  cases e1 : esc1 o η with
  | none =>
    rw [e1] at e
    cases e
  | some q =>
    obtain ⟨x, η1⟩ := q
    rw [e1] at e
    simp only [Option.some.injEq, Prod.mk.injEq] at e
    obtain ⟨rfl, rfl⟩ := e
    obtain ⟨as1, Hs1, r1, x1⟩ := esc1_ok (π := []) (τ := []) h rfl l e1
    obtain ⟨as2, Hs2, r2, x2, rd⟩ := Rep.freeze0 (η := η1) (σ := σ) r1
    obtain ⟨as3, r3, m3⟩ := r2.pop
    exact ⟨as3, Hs2, r3, (x1.trans x2).less m3, rd⟩

section
variable {M : Md} {S : Sc} {k : Nat} {W : WX} {X : Cx} {kp : List Nat} {a b c e : Expr} {es : List Expr} {fa fb fc : FO} {g : FL} {pos p : Pos} {x : Str}
/-! ### a name as a receiver -/
theorem pv_of (ok : Cok M S k W X) {i : Nat} (hi : S.N[i]? = some x) (hv : Vis S.sc x) (hd : (x == ("__debug__" : Str)) = false) (hcd : (x == ("__classdict__" : Str)) = false) : PE X (.Name x p) (tVar i) :=
  pe_var (by rw [ok.N]; exact hi) (by rw [ok.sc]; exact hv) hd hcd
def visB (sc : Scope) (x : Str) : Bool := match sc.names.lookup x with
  | some .local => true
  | some .cell => true
  | some .free => true
  | _ => false
theorem visB_ok {sc : Scope} (h : visB sc x = true) : Vis sc x := by
  unfold visB at h
  unfold Vis
  cases e : sc.names.lookup x with
  | none =>
    rw [e] at h
    cases h
  | some kd =>
    rw [e] at h
    cases kd <;> first | (simp; done) | cases h
/-- a name that can be read at a place -/
structure Nm (S : Sc) (x : Str) (i : Nat) : Prop where
  i : S.N[i]? = some x
  v : visB S.sc x = true
  d : (x == ("__debug__" : Str)) = false
  cd : (x == ("__classdict__" : Str)) = false
theorem Nm.pe (ok : Cok M S k W X) {i : Nat} (n : Nm S x i) : PE X (.Name x p) (tVar i) := pv_of ok n.i (visB_ok n.v) n.d n.cd
theorem ok_name (ok : Cok M S k W X) {i : Nat} (n : Nm S x i) : OkO M X W (.Name x p) (fVar i) := ok_var (n.pe ok)

/-! ### x.append(e) -/
def fApp (i : Nat) (fe : FO) : FO := fun η => match η[i]? with
  | some (some (.ol _)) => bindR (fe η) fun o η1 => (match esc1 o η1 with
    | some (z, η2) => (match η2[i]? with
      | some (some (.ol xs)) => if xs.length < sizeLine then okR (.pend (.sh .non)) (η2.set i (some (.ol (xs ++ [z])))) else none
      | _ => none)
    | none => none)
  | _ => none
theorem Rep.appendAt {G : Gc} {z : Val} {zv : V} {xs : List Val} {η : Env} {σ : L2.St} {as : List Addr} {H Hs : Hp} {i : Nat} (h : Rep G (some z :: η) (some zv :: σ) as H Hs) (e : η[i]? = some (some (.ol xs))) :
    ∃ a vs, σ[i]? = some (some (.ref a)) ∧ H a = some (.lst vs) ∧ vs.length = xs.length ∧ ∃ as', Rep G (η.set i (some (.ol (xs ++ [z])))) σ as' (upd H a (.lst (vs ++ [zv]))) Hs ∧ Ext as H Hs as' (upd H a (.lst (vs ++ [zv]))) Hs := by
  have hi : i < η.length := (List.getElem?_eq_some_iff.mp e).1
  obtain ⟨v, a1, a2, a3, ev, _, rv, _⟩ := h.env.at (i := i + 1) (by simpa using e)
  simp only [RepV] at rv
  obtain ⟨a, vs0, bs, rfl, _, _, _⟩ := rv
  have ev : σ[i]? = some (some (.ref a)) := by simpa using ev
  have h0 : Rep G (none :: some z :: η) (some (.ref a) :: some zv :: σ) as H Hs := RepO.none_top h
  obtain ⟨b1, p1, r1⟩ := h0.move (i := i + 2) (j := 0) (x := .ol xs) (v := .ref a) (by simpa using e) rfl (by simpa using ev) rfl
  have r1 : Rep G ([] ++ (some (.ol xs) :: some z :: η.set i none)) ([] ++ (some (.ref a) :: some zv :: σ)) b1 H Hs := by simpa using r1
  obtain ⟨vs, hv, lv, as2, r2, x2⟩ := r1.append rfl
  obtain ⟨b3, p3, r3⟩ := Rep.move (i := 0) (j := i + 1) (x := .ol (xs ++ [z])) (v := .ref a) r2 rfl (by simp [hi]) rfl (by simpa using ev)
  have r3 : Rep G (none :: η.set i (some (.ol (xs ++ [z])))) (some (.ref a) :: σ) b3 (upd H a (.lst (vs ++ [zv]))) Hs := by simpa [List.set_set] using r3
  obtain ⟨b4, r4, m4⟩ := r3.pop
  exact ⟨a, vs, ev, hv, lv, b4, r4, ((x2.perm p1.symm).permR p3).less m4⟩
theorem ok_append (ok : Cok M S k W X) {i : Nat} {apos : Pos} (n : Nm S x i) (he : OkO M X W e fa) (hs : noStar e = true) (hl : (apos.endLine == pos.line) = true) : OkO M X W (.Call (.Attribute (.Name x p) "append" apos) [e] [] pos) (fApp i fa) := by
  obtain ⟨t, ht, hh⟩ := he
  refine ⟨_, pe_bm (n.pe ok) (pa := PySem.F.plainAttrs_list) (slot := PySem.F.slot_list_append) (hty := PySem.F.type_list_append) (hm := mt_append) (ha := pa_cons ht pa_nil (star_cons hs)) (hbase := base_ok rfl) (hfew := by rw [star_cons hs]; rfl) (hline := hl) (hs := star_cons hs) (hplain := rfl), fun η σ as H Hs res Q hR hf hp => ?_⟩
  unfold fApp at hf
  cases e0 : η[i]? with
  | none =>
    rw [e0] at hf
    cases hf
  | some y =>
    rcases y with _ | (d | xs0 | _ | _ | _) <;> first | (rw [e0] at hf; cases hf; done) | skip
    rw [e0] at hf
    simp only at hf
    obtain ⟨v, a1, a2, a3, ev, _, rv, _⟩ := hR.env.at e0
    simp only [RepV] at rv
    obtain ⟨a, vs0, bs, rfl, _, ha, _⟩ := rv
    refine ⟨_, ev, .inl ⟨rfl, _, SqL.of ha⟩, ?_⟩
    show t σ H _
    rcases bindR_inv hf with ⟨o, η1, e1, e2⟩ | ⟨c, p, η1, e1, rfl⟩
    · refine hh η σ as H Hs _ _ hR e1 fun zv as' H' Hs' r1 l1 x1 => ?_
      cases e3 : esc1 o η1 with
      | none =>
        rw [e3] at e2
        cases e2
      | some q =>
        obtain ⟨z, η2⟩ := q
        rw [e3] at e2
        simp only at e2
        obtain ⟨as2, Hs2, r2, x2⟩ := esc1_ok (π := []) (τ := []) r1 rfl l1 e3
        cases e4 : η2[i]? with
        | none =>
          rw [e4] at e2
          cases e2
        | some y =>
          rcases y with _ | (d | xs | _ | _ | _) <;> first | (rw [e4] at e2; cases e2; done) | skip
          rw [e4] at e2
          simp only at e2
          by_cases hz : xs.length < sizeLine
          · rw [if_pos hz] at e2
            obtain rfl : res = .ok (.pend (.sh .non)) _ := (Option.some.inj e2).symm
            obtain ⟨a', vs, ev', ha', lv, as3, r3, x3⟩ := Rep.appendAt r2 e4
            rw [ev] at ev'
            obtain rfl : a = a' := by simpa using ev'
            exact ⟨a, vs, zv, rfl, rfl, ha', by omega, hp .non _ _ _ (r3.push_sh (by simp only [RepD])) trivial (x1.trans (x2.trans x3))⟩
          · rw [if_neg hz] at e2
            cases e2
    · exact hh η σ as H Hs _ _ hR e1 hp
/-! ### x[i] = e -/
def shList : Val → Option (List D)
  | .ol xs => shAll xs
  | _ => none
def isOl (η : Env) (i : Nat) : Bool := match η[i]? with
  | some (some (.ol _)) => true
  | _ => false
theorem isOl_inv {η : Env} {i : Nat} (h : isOl η i = true) : ∃ xs, η[i]? = some (some (.ol xs)) := by
  unfold isOl at h
  split at h
  · exact ⟨_, by assumption⟩
  · cases h
theorem ol_ref {G : Gc} {η : Env} {σ : L2.St} {as : List Addr} {H Hs : Hp} {i : Nat} {xs : List Val} (h : Rep G η σ as H Hs) (e : η[i]? = some (some (.ol xs))) : ∃ a vs, σ[i]? = some (some (.ref a)) ∧ H a = some (.lst vs) := by
  obtain ⟨v, a1, a2, a3, ev, _, rv, _⟩ := h.env.at e
  simp only [RepV] at rv
  obtain ⟨a, vs0, bs, rfl, _, ha, _⟩ := rv
  exact ⟨a, vs0, ev, ha⟩
def fSetI (i : Nat) (fe fi : FO) : FS := fun η => bindR (fe η) fun o η1 => match escS o η1 with
  | some (d, η2) => if isOl η2 i then bindR (fi η2) fun q η3 => (match prepAll [q] η3 with
    | some ([.int j], η4) => (match η4[i]? with
      | some (some y) => (match shList y with
        | some ds => (match ixN ds.length j with
          | some n => okR .next (η4.set i (some (.ol ((ds.set n d).map .sh))))
          | none => none)
        | none => none)
      | _ => none)
    | _ => none) else none
  | none => none
theorem shList_inv {y : Val} {ds : List D} (h : shList y = some ds) : y = .ol (ds.map .sh) := by
  cases y <;> first | cases h | skip
  rw [shAll_inv (show shAll _ = some ds from h)]
theorem ok_setI (ok : Cok M S k W X) {i : Nat} {ix : Expr} {spos : Pos} (n : Nm S x i) (he : OkO M X W e fa) (hi : OkO M X W ix fb)
    (hsw : noComp e = true)
    (has : ∀ v, assign (.Subscript (.Name x p) ix spos) X.env v = (do
      let ov ← holding [v] (eval (.Name x p) X.env)
      let iv ← holding [v, ov] (eval ix X.env)
      standAt spos
      holding [v, ov, iv] (setItem ov iv v)
      release [v, ov, iv] [])) (hw : swappedStores [.Subscript (.Name x p) ix spos] e X.env = pure none) (h1 : (assignEach [.Subscript (.Name x p) ix spos] X.env).map (·.2) = [assign (.Subscript (.Name x p) ix spos) X.env]) :
    OkS M X W kp (.Assign [.Subscript (.Name x p) ix spos] e pos) (fSetI i fa fb) := by
  obtain ⟨t, ht, hh⟩ := he
  obtain ⟨ti, hti, hhi⟩ := hi
  refine ⟨_, ps_asg ht (pg_sub (n.pe ok) hti set_list has) (by unfold swapsWithSole; exact swaps_no hsw) hw h1, fun η σ as H Hs res D hR hf hp => ?_⟩
  unfold fSetI at hf
  rcases bindR_inv hf with ⟨o, η1, e1, e2⟩ | ⟨c, p, η1, e1, rfl⟩
  · refine hh η σ as H Hs _ _ hR e1 fun zv as' H' Hs' r1 l1 x1 => ?_
    cases e3 : escS o η1 with
    | none =>
      rw [e3] at e2
      cases e2
    | some q =>
      obtain ⟨d, η2⟩ := q
      rw [e3] at e2
      simp only at e2
      obtain ⟨as2, Hs2, r2, x2, rd⟩ := escS_ok r1 l1 e3
      by_cases hol : isOl η2 i = true
      rotate_left
      · rw [if_neg hol] at e2
        cases e2
      rw [if_pos hol] at e2
      obtain ⟨xs0, e0⟩ := isOl_inv hol
      obtain ⟨a, vs0, ev, _⟩ := ol_ref r2 e0
      refine ⟨_, ev, ?_⟩
      rcases bindR_inv e2 with ⟨q, η3, e4, e5⟩ | ⟨c, p, η3, e4, rfl⟩
      · refine hhi η2 σ as2 H' Hs2 _ _ r2 e4 fun iv as3 H3 Hs3 r3 l3 x3 => ?_
        cases e6 : prepAll [q] η3 with
        | none =>
          rw [e6] at e5
          cases e5
        | some q2 =>
          obtain ⟨dl, η4⟩ := q2
          rw [e6] at e5
          obtain ⟨d1, rfl⟩ : ∃ d1, dl = [d1] := by
            rcases dl with _ | ⟨d1, _ | ⟨_, _⟩⟩ <;> first | exact ⟨_, rfl⟩ | (simp at e5; done)
          cases d1 <;> first | (simp at e5; done) | skip
          rename_i j
          simp only at e5
          obtain ⟨as4, Hs4, r4, x4, t4⟩ := prep_ok (os := [q]) (vs := [iv]) r3 ⟨iv, [], rfl, l3, rfl⟩ e6
          obtain ⟨w, ws, z, t5, _⟩ := t4.uncons
          obtain ⟨rfl, rfl⟩ := List.cons.inj z
          cases e7 : η4[i]? with
          | none =>
            rw [e7] at e5
            cases e5
          | some y =>
            cases y with
            | none =>
              rw [e7] at e5
              cases e5
            | some y =>
              rw [e7] at e5
              simp only at e5
              cases e8 : shList y with
              | none =>
                rw [e8] at e5
                cases e5
              | some ds =>
                rw [e8] at e5
                simp only at e5
                cases e9 : ixN ds.length j with
                | none =>
                  rw [e9] at e5
                  cases e5
                | some m =>
                  rw [e9] at e5
                  obtain rfl : res = .ok .next _ := (Option.some.inj e5).symm
                  obtain rfl := shList_inv e8
                  obtain ⟨a', vs, ev', ha, rds, mk⟩ := Rep.mutS r4 e7
                  rw [ev] at ev'
                  obtain rfl : a = a' := by simpa using ev'
                  obtain ⟨as5, r5, x5⟩ := mk (ds.set m d) (vs.set m zv) (rds.set m (rd.le ((x3.grow.trans x4.grow).le)))
                  exact ⟨a, vs, j, m, rfl, t5, ha, by rw [← rds.length]; exact e9, hp σ as5 _ _ r5 (x1.trans (x2.trans (x3.trans (x4.trans x5)))) Kept.refl⟩
      · refine hhi η2 σ as2 H' Hs2 _ _ r2 e4 fun u dx as3 H3 Hs3 r3 hX x3 => ?_
        exact hp u dx σ as3 H3 Hs3 r3 hX (x1.trans (x2.trans x3)) Kept.refl
  · exact hh η σ as H Hs _ _ hR e1 (PostX.toS hp)
end
end Wp
end
section
set_option Elab.async false
set_option linter.all false
set_option maxRecDepth 100000
/-! WpS: fields stored; stores side by side; constants. -/
namespace Wp
open PySem PySem.Spec PyProof.Rows L2

/-! ### self.f = e -/
def putFs (f : Str) : List Str → List Str
  | [] => [f]
  | g :: r => if g = f then g :: r else g :: putFs f r
def putAs {α : Type} (f : Str) (a : α) : List Str → List α → List α
  | [], _ => [a]
  | g :: r, x :: xs => if g = f then a :: xs else x :: putAs f a r xs
  | _ :: _, [] => []
theorem putF_zip (f : Str) (y : V) : ∀ {fs : List Str} {vs : List V}, fs.length = vs.length → putF f y (fs.zip vs) = (putFs f fs).zip (putAs f y fs vs)
  | [], [], _ => rfl
  | g :: r, v :: vs, h => by
    simp only [List.zip_cons_cons, putF, putFs, putAs]
    by_cases e : g = f
    · simp [e]
    · simp only [if_neg e, List.zip_cons_cons]
      rw [putF_zip f y (by simpa using h)]
theorem putAs_len {α : Type} (f : Str) (y : α) : ∀ {fs : List Str} {vs : List α}, fs.length = vs.length → (putFs f fs).length = (putAs f y fs vs).length
  | [], [], _ => rfl
  | g :: r, v :: vs, h => by
    simp only [putFs, putAs]
    by_cases e : g = f
    · simpa [e] using h
    · simp only [if_neg e, List.length_cons]
      rw [putAs_len f y (by simpa using h)]
theorem putAs_rep {G : Gc} {Hs : Hp} {f : Str} {d : D} {v : V} : ∀ {fs : List Str} {ds : List D} {vs : List V}, fs.length = vs.length → RepDs G Hs ds vs → RepD G Hs d v → RepDs G Hs (putAs f d fs ds) (putAs f v fs vs)
  | [], ds, vs, _, h, r => RepDs.cons r (RepDs.nil_iff.mpr rfl)
  | g :: fs, [], vs, l, h, r => by
    rw [RepDs.nil_iff] at h
    subst h
    simp at l
  | g :: fs, d' :: ds, vs, l, h, r => by
    obtain ⟨w, ws, rfl, p, q⟩ := h.uncons
    simp only [putAs]
    by_cases e : g = f
    · simp only [if_pos e]
      exact RepDs.cons r q
    · simp only [if_neg e]
      exact RepDs.cons p (putAs_rep (by simpa using l) q r)
theorem Rep.mutO {G : Gc} {η : Env} {σ : L2.St} {as : List Addr} {H Hs : Hp} {i c : Nat} {fs : List Str} {ds : List D} (h : Rep G η σ as H Hs) (e : η[i]? = some (some (.oi c fs (ds.map .sh)))) : ∃ a dx vs, σ[i]? = some (some (.ref a)) ∧ H a = some (.ins (G.C c) dx (fs.zip vs)) ∧ fs.length = vs.length ∧ RepDs G Hs ds vs ∧
    ∀ fs' ds' vs', fs'.length = vs'.length → RepDs G Hs ds' vs' → ∃ as', Rep G (η.set i (some (.oi c fs' (ds'.map .sh)))) σ as' (upd H a (.ins (G.C c) dx (fs'.zip vs'))) Hs ∧ Ext as H Hs as' (upd H a (.ins (G.C c) dx (fs'.zip vs'))) Hs := by
  obtain ⟨v, a1, a2, a3, ev, rfl, rv, k⟩ := h.env.at e
  simp only [RepV] at rv
  obtain ⟨a, dx, vs, bs, rfl, rfl, ha, hd, hl, rs⟩ := rv
  obtain rfl := rs.sh_nil
  have hda : dx ≠ a := fun z => by
    subst z
    rw [ha] at hd
    cases hd
  refine ⟨a, dx, vs, ev, ha, hl, rs.shs_inv, fun fs' ds' vs' l' rd => ?_⟩
  have na : ∀ b ∈ a1 ++ a3, b ≠ a := fun b hb z => by
    subst z
    obtain ⟨n1, n2, n3⟩ := List.nodup_append.mp h.nd
    rcases List.mem_append.mp hb with z | z
    · exact n3 b z b (by simp) rfl
    · have := (List.nodup_cons.mp (show (b :: ([dx] ++ a3)).Nodup from n2)).1
      exact this (by simp [z])
  have hsa : Hs a = none := h.off a (by simp)
  have k2 := k (upd H a (.ins (G.C c) dx (fs'.zip vs'))) Hs (some (.oi c fs' (ds'.map .sh))) (some (.ref a)) [a, dx] ⟨_, rfl, by simp only [RepV]; exact ⟨a, dx, vs', [], rfl, rfl, upd_same, by rw [upd_ne hda]; exact hd, l', rd.shs _⟩⟩ (fun b hb o eo => by rw [upd_ne (na b hb)]; exact eo) Le.refl
  rw [set_same ev] at k2
  refine ⟨_, ⟨fun b o eo => ?_, k2, by simpa using h.nd, fun b hb => h.off b (by simpa using hb)⟩, ⟨fun b o eo nb => ?_, Sub.refl, fun b z => .inl z, fun b hb => .inl (by simpa using hb)⟩⟩
  · have hb : b ≠ a := fun z => by
      subst z
      rw [hsa] at eo
      cases eo
    rcases h.le b o eo with z | ⟨ob, kvs, z1, z2⟩
    · exact .inl (by rw [upd_ne hb]; exact z)
    · exact .inr ⟨ob, kvs, z1, by rw [upd_ne hb]; exact z2⟩
  · rw [upd_ne (fun z => nb (by simp [z]))]
    exact eo
def shObj : Val → Option (Nat × List Str × List D)
  | .oi c fs xs => (shAll xs).map fun ds => (c, fs, ds)
  | _ => none
theorem shObj_inv {y : Val} {c : Nat} {fs : List Str} {ds : List D} (h : shObj y = some (c, fs, ds)) : y = .oi c fs (ds.map .sh) := by
  cases y <;> first | cases h | skip
  rename_i c' fs' xs
  simp only [shObj, Option.map_eq_some_iff, Prod.mk.injEq] at h
  obtain ⟨ds', h1, rfl, rfl, rfl⟩ := h
  rw [shAll_inv h1]
def fSetF (fc : Nat → Bool) (i : Nat) (f : Str) (fe : FO) : FS := fun η => bindR (fe η) fun o η1 => match escS o η1 with
  | some (d, η2) => (match η2[i]? with
    | some (some y) => (match shObj y with
      | some (c, fs, ds) => if fc c = true ∧ fs.length < 1000 then okR .next (η2.set i (some (.oi c (putFs f fs) ((putAs f d fs ds).map .sh)))) else none
      | none => none)
    | _ => none)
  | none => none
section
variable {M : Md} {S : Sc} {k : Nat} {W : WX} {X : Cx} {kp : List Nat} {a b c e : Expr} {es : List Expr} {fa fb fc : FO} {g : FL} {pos p : Pos} {x : Str}
theorem ok_setF {cf : Nat → Bool} {f : Str} {i : Nat} {spos : Pos} (ok : Cok M S k W X) (n : Nm S x i) (hfc : FcOk M f cf) (he : OkO M X W e fa) (hs : noComp e = true) : OkS M X W kp (.Assign [.Attribute (.Name x p) f spos] e pos) (fSetF cf i f fa) := by
  obtain ⟨P', w, K, mg, base, C⟩ := M
  have emd := ok.md
  simp only [mdOf, Md.mk.injEq, and_true] at emd
  obtain ⟨rfl, rfl, rfl, rfl, rfl⟩ := emd
  obtain ⟨t, ht, hh⟩ := he
  refine ⟨_, ps_fld (n.pe ok) ht (swaps_no hs), fun η σ as H Hs res D hR hf hp => ?_⟩
  rcases bindR_inv hf with ⟨o, η1, e1, e2⟩ | ⟨c, p, η1, e1, rfl⟩
  · refine hh η σ as H Hs _ _ hR e1 fun zv as' H' Hs' r1 l1 x1 => ?_
    cases e3 : escS o η1 with
    | none =>
      rw [e3] at e2
      cases e2
    | some q =>
      obtain ⟨d, η2⟩ := q
      rw [e3] at e2
      simp only at e2
      obtain ⟨as2, Hs2, r2, x2, rd⟩ := escS_ok r1 l1 e3
      cases e4 : η2[i]? with
      | none =>
        rw [e4] at e2
        cases e2
      | some y =>
        cases y with
        | none =>
          rw [e4] at e2
          cases e2
        | some y =>
          rw [e4] at e2
          simp only at e2
          cases e5 : shObj y with
          | none =>
            rw [e5] at e2
            cases e2
          | some q =>
            obtain ⟨c, fs, ds⟩ := q
            rw [e5] at e2
            simp only at e2
            by_cases hc : cf c = true ∧ fs.length < 1000
            · rw [if_pos hc] at e2
              obtain rfl : res = .ok .next _ := (Option.some.inj e2).symm
              obtain rfl := shObj_inv e5
              obtain ⟨a, dx, vs, ev, ha, hl, rds, mk⟩ := Rep.mutO r2 e4
              obtain ⟨cl, na⟩ := hfc c hc.1
              refine ⟨_, ev, a, C c, dx, _, rfl, ha, cl, na, ?_, ?_⟩
              · rw [List.length_zip, ← hl, Nat.min_self]
                exact hc.2
              · rw [putF_zip f zv hl]
                obtain ⟨as5, r5, x5⟩ := mk (putFs f fs) (putAs f d fs ds) (putAs f zv fs vs) (putAs_len f zv hl) (putAs_rep hl rds rd)
                exact hp σ as5 _ _ r5 (x1.trans (x2.trans x5)) Kept.refl
            · rw [if_neg hc] at e2
              cases e2
  · exact hh η σ as H Hs _ _ hR e1 (PostX.toS hp)

/-! ### stores side by side: only the scope counts -/
def envS (sc : Scope) : PySem.Env := { scope := sc, locals := 0, globals := 0, cells := [] }
theorem swapped_eq {ts : List Expr} {v : Expr} {e1 e2 : PySem.Env} (h : e1.scope = e2.scope) : swappedStores ts v e1 = swappedStores ts v e2 := by
  have hk : ∀ y, e1.kindOf y = e2.kindOf y := fun y => by unfold Env.kindOf; rw [h]
  have hb : e1.blockKind = e2.blockKind := by unfold Env.blockKind; rw [h]
  unfold swappedStores
  simp only [hk, hb]
theorem swapped_of (ok : Cok M S k W X) {ts : List Expr} {v : Expr} {r : Option (List Str)} (h : swappedStores ts v (envS S.sc) = pure r) : swappedStores ts v X.env = pure r := by
  rw [swapped_eq (e2 := envS S.sc) (by rw [ok.sc]; rfl)]
  exact h
theorem ok_par' {i j : Nat} {x y : Str} {a b : Expr} {g : FL} {px py pt : Pos} {kt k2 : Nat} {pt2 : Pos} (ok : Cok M S k W X) (hi : S.N[i]? = some x) (hj : S.N[j]? = some y) (hij : i ≠ j) (hx : S.sc.names.lookup x = some .local) (hy : S.sc.names.lookup y = some .local)
    (ki : i ∉ kp) (kj : j ∉ kp) (ha : OkL M X W [a, b] g) (hw : swappedStores [.Tuple [.Name x px, .Name y py] kt pt] (.Tuple [a, b] k2 pt2) (envS S.sc) = pure (some [x, y])) :
    OkS M X W kp (.Assign [.Tuple [.Name x px, .Name y py] kt pt] (.Tuple [a, b] k2 pt2) pos) (fPar i j g) := ok_par ok hi hj hij hx hy ki kj ha (swapped_of ok hw)
theorem ok_asg' {tg e : Expr} {g : FG} {f : FO} (ok : Cok M S k W X) (he : OkO M X W e f) (hg : OkG M X kp tg g) (hs : noComp e = true) (hw : swappedStores [tg] e (envS S.sc) = pure none) (hst : noStar tg = true) : OkS M X W kp (.Assign [tg] e pos) (fAsg g f) :=
  ok_asg he hg (by unfold swapsWithSole; exact swaps_no hs) (swapped_of ok hw) hst

/-! ### literals, the module's constants -/
theorem lit_int {i : Int} : OkO M X W (.Constant (.int i) 0 pos) (fLit (.int i)) := ok_lit pe_int fun _ => by simp only [RepD]
theorem lit_bl {b : Bool} : OkO M X W (.Constant (.bool b) 0 pos) (fLit (.bl b)) := ok_lit pe_bl fun _ => by simp only [RepD]
theorem lit_non : OkO M X W (.Constant .none 0 pos) (fLit .non) := ok_lit pe_non fun _ => by simp only [RepD]
theorem lit_str {s : Str} : OkO M X W (.Constant (.str s) 0 pos) (fLit (.str s)) := ok_lit pe_str fun _ => by simp only [RepD]
/-- a constant of the module -/
structure Gn (M : Md) (S : Sc) (x : Str) (d : D) : Prop where
  gl : S.sc.names.lookup x = some .globalImplicit
  nd : (x == ("__debug__" : Str)) = false
  ex : ∃ v u, M.mg x = some u ∧ RelV v u ∧ ∀ Hs, RepD M.G Hs d v
theorem ok_glob {d : D} (ok : Cok M S k W X) (h : Gn M S x d) : OkO M X W (.Name x pos) (fLit d) := by
  obtain ⟨v, u, h1, h2, h3⟩ := h.ex
  exact ok_lit (pe_glob (gl_ok ok h.gl) (by have := ok.md; rw [← h1, ← this]; rfl) h2 h.nd) h3
/-- a built-in type's name, a class's name, as isinstance's second word -/
theorem pe_tyN (ok : Cok M S k W X) {T : String} (B : Bi M S x (.type T)) : PE X (.Name x p) (tC (.ty T)) := pe_bltn (gl_ok ok B.gl) (by have := ok.md; rw [← B.mg, ← this]; rfl) B.bo rfl B.nn B.nd
theorem pe_clsN (ok : Cok M S k W X) {c : Nat} (hg : S.sc.names.lookup x = some .globalImplicit) (hm : M.mg x = some (.ref (M.C c))) (hd : (x == ("__debug__" : Str)) = false) : PE X (.Name x p) (tC (.ref (M.C c))) := pe_glob (gl_ok ok hg) (by have := ok.md; rw [← hm, ← this]; rfl) rfl hd
end
end Wp
end
section
set_option Elab.async false
set_option linter.all false
set_option maxRecDepth 100000
set_option maxHeartbeats 4000000
/-! WpT: sorted(set(a list of ints)). -/
namespace Wp
open PySem PySem.Spec PyProof.Rows L2
section
variable {P : Program} {w : World} {A : Around} {E : Value → Shared → Prop} {s : Shared}
abbrev noSetYet (w : World) : Obj := { cls := .type "set", dict := none, data := .set #[] 0 (.fresh 0 0 (!w.params.followText "set-order")) }
set_option maxRecDepth 100000 in
set_option maxHeartbeats 3200000 in
/-- set(l), l a list of ints: the members, by a SetR -/
theorem set_of_ints {l : Addr} {items : Array Value} (ns : List Int) {Q : Value → Shared → Prop} (noH : A.handled = none) (isL : s.heap.IsList l items) (isI : IntsAre items.toList ns) (few : ns.length + 1 < scanBound)
    (fin : ∀ (g : Heap) (tk c : Nat), SetR w g s.heap.objs.size (fun j => decide (j ∈ ns)) c → c ≤ ns.length → (∀ b o, s.heap.get? b = some o → g.get? b = some o) → Q (.ref s.heap.objs.size) { s with heap := g, toks := tk }) :
    wpAny (model P w) A (call (.type "set") [.ref l]) Q E s := by
  have size_eq : items.size = ns.length := by
    have := IntsAre.length isI
    simpa using this
  obtain ⟨c0, tl0, mro0⟩ := F.called_set.mro
  have made0 := F.called_set.made
  have sub0 := F.called_set.sub
  refine wpAny_call (codeAny_of_tree ?_)
  show wpAny _ _ (callAny (.type "set") _) _ _ _
  refine wpAny_pure ⟨Code.quiet_builtin _ (by decide +kernel), codeAny_builtin F.entry_type_call ?_⟩
  rw [Around.under_plain (weight_type_call_type "set" [.ref l] []) rfl]
  have t1 := F.called_set.notType
  have t2 := F.called_set.canCreate
  have t3 := F.typeCall_set_1 (.ref l)
  repeat (any_goals (first | assumption | wp_step))

  refine codeAny_mono (code_set_led1 (.ref l) (E := E) (Q₁ := fun ob s' => ob = .ref s.heap.objs.size ∧ s' = { s with heap := s.heap.push (noSetYet w) }) ⟨rfl, rfl⟩) fun res s' hres => ?_
  rcases res with er | fl
  · exact hres
  cases fl <;> first | exact hres.elim | skip
  rename_i ob
  obtain ⟨rfl, rfl⟩ := hres
  have at0 : (s.heap.push (noSetYet w)).get? s.heap.objs.size = some (noSetYet w) := Heap.get?_push_size _ rfl
  have isS : Shared.TypeIs { s with heap := s.heap.push (noSetYet w) } (.ref s.heap.objs.size) "set" := ⟨_, at0, rfl⟩
  have i1 := F.called_set.init.lookup
  have i2 := F.called_set.init.bind (.ref s.heap.objs.size)
  repeat (any_goals (first | assumption | wp_step))

  refine codeAny_mono (codeAny_call_builtin (R := wants (fun r s2 => r = .none ∧ ∃ g tk c, s2 = { s with heap := g, toks := tk } ∧ SetR w g s.heap.objs.size (fun j => decide (j ∈ ns)) c ∧ c ≤ ns.length ∧ (∀ b o, s.heap.get? b = some o → g.get? b = some o)) E)
    F.called_set.init.plain F.entry_set_init (check_set_init_1 isS ?_)) fun res2 s2 hres2 => ?_
  rotate_left
  · rcases res2 with er | fl2
    · exact hres2
    cases fl2 <;> first | exact hres2.elim | skip
    obtain ⟨rfl, g, tk, c, rfl, q1, q2, q3⟩ := hres2
    repeat (any_goals (first | assumption | wp_step))
    exact fin _ _ _ q1 q2 q3
  obtain ⟨⟨lcls, ldict, ldata, lslots⟩, hol, hcl, nl, hdl⟩ := id isL
  simp only at hcl hdl
  subst hcl hdl
  have ol1 : (s.heap.push (noSetYet w)).get? l = some { cls := .type "list", dict := ldict, data := .seq items nl, slots := lslots } := Heap.get?_push_of_some _ hol
  have u1 := F.sub_list_set
  have u2 := F.sub_list_frozenset
  have u3 : (Value.type "list" == Value.type "dict") = false := by decide
  have isL1 : (s.heap.push (noSetYet w)).IsList l items := ⟨_, ol1, rfl, nl, rfl⟩
  unfold Builtin.«set.__init__» noKeywords Builtin.Frozenset.updateFrom
  generalize hIter : pyIter = theIter
  wp_walk
  subst hIter

  refine wpAny_pyIter_list isL1 (wpAny_bind (wpAny_runValue ?_))
  have lS : l < s.heap.objs.size := Heap.lt_size hol
  have noH3 : A.in1.in1.in1.handled = none := by simp [noH]
  have lI : l ≠ (s.heap.push (noSetYet w)).objs.size := by
    rw [Heap.size_push]
    exact Nat.ne_of_lt (Nat.lt_succ_of_lt lS)
  have apart : s.heap.objs.size ∉ [(s.heap.push (noSetYet w)).objs.size, l] := by
    rw [Heap.size_push]
    simp only [List.mem_cons, List.not_mem_nil, or_false, not_or]
    exact ⟨Nat.ne_of_lt (Nat.lt_succ_self _), Nat.ne_of_gt lS⟩
  refine set_update_ints ((Walks.list noH3 _ l lI items).toS) s.heap.objs.size apart ns size_eq few (fun i v hv => ?_) (items.size - 0) 0 _ (by omega) (Nat.zero_le _) ⟨⟨_, Heap.get?_push_size _ rfl, rfl, rfl⟩, (isL1.push _)⟩ ⟨0, Nat.le_refl 0, setR_new_at (Heap.get?_push_of_some _ at0)⟩ fun s3 c3 mv le3 set3 => ?_
  · have hi : i < ns.length := by rw [← size_eq]; exact (Array.getElem?_eq_some_iff.mp hv).1
    obtain ⟨t, e⟩ := PyProof.Rows.IntsAre.int_at isI i v (by simpa using hv)
    refine ⟨ns[i], t, List.getElem?_eq_getElem hi, ?_⟩
    rw [e]
    simp [List.getD_eq_getElem?_getD, List.getElem?_eq_getElem hi]
  · obtain ⟨g3, gens3, drawn3, toks3, os3⟩ := s3
    have z1 : gens3 = s.gens := mv.gens
    have z2 : drawn3 = s.drawn := mv.drawn
    have z3 : os3 = s.os := mv.os
    subst z1 z2 z3
    show wpAny _ _ _ _ _ _
    refine wpAny_pure ?_
    show wpAny _ _ (ret Value.none) _ _ _
    rw [size_eq] at le3
    refine wpAny_pure ⟨rfl, g3, toks3, c3, rfl, set3, le3, fun b o e => ?_⟩
    have b0 : b < s.heap.objs.size := Heap.lt_size e
    refine mv.heap b o ?_ (Heap.get?_push_of_some _ (Heap.get?_push_of_some _ e))
    rw [Heap.size_push]
    simp only [List.mem_cons, List.not_mem_nil, or_false, not_or]
    exact ⟨Nat.ne_of_lt b0, Nat.ne_of_lt (Nat.lt_succ_of_lt b0)⟩
end

def rSetLI (K : PySem.W.Frag) (w : World) : List V → Hp → VK → Prop := fun xs H Q => ∃ (a : Addr) (ns : List Int), xs = [.ref a] ∧ SqL K H a (ns.map V.int) ∧ ns.length + 1 < scanBound ∧ ∀ p c, c ≤ ns.length → H p = none → Q (.ref p) (upd H p (SetO w p (fun j => decide (j ∈ ns)) c))
section
variable {M : Md} {S : Sc} {k : Nat} {W : WX} {X : Cx} {a b c e : Expr} {es : List Expr} {fa fb fc : FO} {g : FL} {pos p : Pos} {x : Str}
theorem cr_setLI (hc : X.calm = true) : CallR X (.type "set") (rSetLI X.K X.w) := by
  intro pins s σ H xs us Q I r h
  obtain ⟨a, ns, rfl, hs, few, q⟩ := h
  obtain ⟨its, rv, hl, _⟩ := I.list hs
  rw [Vals.ref1 r]
  refine set_of_ints ns (I.ok.hd hc) hl.isList (by simpa using rv.ints) few fun g tk c R le kp => ?_
  refine ⟨.ref _, _, I.laid (t' := tk) kp (Nat.le_refl _) (setO_new R), rfl, q _ c le (I.hok.fresh (Nat.le_refl _))⟩

/-! ### strictly sorted -/
def insU (n : Int) : List Int → List Int
  | [] => [n]
  | m :: ms => if n < m then n :: m :: ms else if n = m then m :: ms else m :: insU n ms
def sortU : List Int → List Int
  | [] => []
  | n :: ns => insU n (sortU ns)
theorem insU_mem (n : Int) : ∀ {ns : List Int} {k : Int}, k ∈ insU n ns ↔ k = n ∨ k ∈ ns
  | [], k => by simp [insU]
  | m :: ms, k => by
    unfold insU
    split
    · simp
    · split
      · rename_i h
        subst h
        simp
      · simp only [List.mem_cons, insU_mem n]
        constructor
        · rintro (z | z | z) <;> simp [z]
        · rintro (z | z | z) <;> simp [z]
theorem sortU_mem : ∀ {ns : List Int} {k : Int}, k ∈ sortU ns ↔ k ∈ ns
  | [], k => by simp [sortU]
  | n :: ns, k => by simp only [sortU, insU_mem, sortU_mem, List.mem_cons]
theorem insU_sorted (n : Int) : ∀ {ns : List Int}, ns.Pairwise (· < ·) → (insU n ns).Pairwise (· < ·)
  | [], _ => by simp [insU]
  | m :: ms, h => by
    obtain ⟨h1, h2⟩ := List.pairwise_cons.mp h
    unfold insU
    split
    · refine List.pairwise_cons.mpr ⟨fun y hy => ?_, h⟩
      rcases List.mem_cons.mp hy with rfl | hy
      · assumption
      · have := h1 y hy
        omega
    · split
      · exact h
      · refine List.pairwise_cons.mpr ⟨fun y hy => ?_, insU_sorted n h2⟩
        rcases (insU_mem n).mp hy with rfl | hy
        · omega
        · exact h1 y hy
theorem sortU_sorted : ∀ ns : List Int, (sortU ns).Pairwise (· < ·)
  | [] => .nil
  | n :: ns => insU_sorted n (sortU_sorted ns)
theorem strict_eq : ∀ {xs ys : List Int}, (∀ k, k ∈ xs ↔ k ∈ ys) → xs.Pairwise (· < ·) → ys.Pairwise (· < ·) → xs = ys
  | [], [], _, _, _ => rfl
  | [], y :: ys, h, _, _ => by have := (h y).mpr (List.mem_cons_self ..); simp at this
  | x :: xs, [], h, _, _ => by have := (h x).mp (List.mem_cons_self ..); simp at this
  | x :: xs, y :: ys, h, h1, h2 => by
    obtain ⟨a1, a2⟩ := List.pairwise_cons.mp h1
    obtain ⟨b1, b2⟩ := List.pairwise_cons.mp h2
    have e : x = y := by
      have hx : x ∈ y :: ys := (h x).mp (List.mem_cons_self ..)
      have hy : y ∈ x :: xs := (h y).mpr (List.mem_cons_self ..)
      rcases List.mem_cons.mp hx with z | z
      · exact z
      · rcases List.mem_cons.mp hy with w | w
        · exact w.symm
        · have u1 := b1 x z
          have u2 := a1 y w
          omega
    subst e
    rw [strict_eq (fun k => ?_) a2 b2]
    constructor
    · intro hk
      rcases List.mem_cons.mp ((h k).mp (List.mem_cons_of_mem _ hk)) with z | z
      · have := a1 k hk
        omega
      · exact z
    · intro hk
      rcases List.mem_cons.mp ((h k).mpr (List.mem_cons_of_mem _ hk)) with z | z
      · have := b1 k hk
        omega
      · exact z
/-! ### sorted(set(xs)) -/
def gSortedSet : D → Option Val
  | .lst xs => (intsOf xs).bind fun ns => if ns.length < 64 then some (.ol ((sortU ns).map fun n => .sh (.int n))) else none
  | _ => none
theorem ok_sortedSet {y : Str} {p2 pos2 : Pos} (ok : Cok M S k W X) (B : Bi M S x (.builtin "sorted")) (B2 : Bi M S y (.type "set")) (ha : OkO M X W a fa) (hs : noStar a = true) :
    OkO M X W (.Call (.Name x p) [.Call (.Name y p2) [a] [] pos2] [] pos) (f1 fa (p1 gSortedSet)) := by
  refine ok1 (r := fun v H Q => rSetLI M.K X.w [v] H fun u H1 => rSortedSet X.w [u] H1 Q) ha (prim1 fun d z hx v H Hs Q s t q => ?_) fun ta ht => ?_
  · unfold gSortedSet at hx
    split at hx
    · simp only [Option.bind_eq_some_iff, Option.ite_none_right_eq_some, Option.some.injEq] at hx
      obtain ⟨ns, e1, few, rfl⟩ := hx
      rw [intsOf_inv e1] at t
      obtain ⟨a, vs, rfl, q1, r1⟩ := t
      rw [r1.ints] at q1
      refine ⟨a, ns, rfl, q1, by unfold scanBound; omega, fun p c hc np => ⟨p, _, c, rfl, upd_same, by omega, fun ms p' h1 h2 h3 np' => ?_⟩⟩
      have e2 : ms = sortU ns := strict_eq (fun k => by rw [h2 k, sortU_mem]; simp) h1 (sortU_sorted ns)
      subst e2
      have hne : p' ≠ p := fun z => by
        subst z
        rw [upd_same] at np'
        cases np'
      have np2 : H p' = none := by rwa [upd_ne hne] at np'
      refine q (.ref p') [p'] _ (fun b o e => ?_) ?_ (by simp) (by simpa using np2)
      · rw [upd_ne (ne_of_none e np2), upd_ne (ne_of_none e np)]
        exact e
      · simp only [RepV]
        refine ⟨p', (sortU ns).map V.int, [], rfl, rfl, upd_same, ?_⟩
        have e3 : ((sortU ns).map fun n => Val.sh (.int n)) = ((sortU ns).map D.int).map Val.sh := by rw [List.map_map]; rfl
        rw [e3]
        exact (RepDs.ofInts _).shs _
    · cases hx
  · have i1 : PE X (.Call (.Name y p2) [a] [] pos2) (tCB (rSetLI X.K X.w) (tCons ta tNil)) :=
      pe_callTy (cr_setLI ok.calm) (gl_ok ok B2.gl) (by have := ok.md; rw [← B2.mg, ← this]; rfl) B2.bo (pa_cons ht pa_nil (star_cons hs)) B2.nn B2.nd (star_cons hs) rfl
    have i2 := pe_callB (pos := pos) (p := p) (cr_sortedSet ok.calm) (gl_ok ok B.gl) (by have := ok.md; rw [← B.mg, ← this]; rfl) B.bo (pa_cons i1 pa_nil (star_cons rfl)) B.nn B.nd (star_cons rfl) rfl
    rw [← ok.K]
    exact i2
end
end Wp
end
section
set_option Elab.async false
set_option linter.all false
set_option maxRecDepth 100000
/-! WpU: the head's facts. -/
namespace Wp
open PySem PySem.Spec PyProof.Rows L2

/-- the kit's facts and one more test of the written part -/
def obsK (n : Nat) (fa : List He.Fa) (fn : List He.DefD) (ex : PySem.W.Frag → Bool) (g : Addr → Option Obj) : He.AlD × Bool := (He.obsD fa fn (He.frG g (He.asD g n)), ex (He.frG g (He.asD g n)))
def hookK (n : Nat) (fa : List He.Fa) (fn : List He.DefD) (ex : PySem.W.Frag → Bool) : PySem.W.Hook where
  α := He.AlD × Bool
  obs := fun s => obsK n fa fn ex s.heap.get?
  val := fun _ => (He.valD fn, true)
  says := fun _ h => ∃ K : PySem.W.Frag, K.In h ∧ He.SaysD fa fn K ∧ ex K = true
  of := fun _ _ e => ⟨_, He.frG_in, congrArg (fun z : He.AlD × Bool => z.1) e, congrArg (fun z : He.AlD × Bool => z.2) e⟩
  keeps := fun _ _ _ ⟨K, hK, c, x⟩ k => ⟨K, PySem.W.Frag.In.keeps hK k, c, x⟩
theorem obsK_eq {n : Nat} {fa : List He.Fa} {fn : List He.DefD} {ex : PySem.W.Frag → Bool} {g : Addr → Option Obj} {s : Shared} (h : ∀ a, g a = s.heap.get? a) : obsK n fa fn ex g = (hookK n fa fn ex).obs s := by
  have e : g = s.heap.get? := funext h
  rw [e] <;> rfl
/-! ### what isinstance asks of a class -/
def insB (K : PySem.W.Frag) (x : Str) : Bool := (He.Fa.cls x).ok K && (He.eqO (PySem.W.findIn K (.ref (He.ga K x)) "__class__") (some (some (.builtin "object.__class__"))) && (He.eqO (PySem.W.specialIn K (.builtin "object.__class__") "__get__") (some (some (.builtin "getset_descriptor.__get__"))) &&
  (decide (PySem.W.takesIn K (.builtin "object.__class__") = some true) && decide (PySem.W.mroIn K (He.ga K x) (.type "object") = some true))))
theorem insB_ok {K : PySem.W.Frag} {x : Str} (h : insB K x = true) : C8.InsC K (He.ga K x) := by
  obtain ⟨h1, h⟩ := He.ba h
  obtain ⟨h2, h⟩ := He.ba h
  obtain ⟨h3, h⟩ := He.ba h
  obtain ⟨h4, h5⟩ := He.ba h
  exact ⟨He.cls_ok h1, He.eqO_ok h2, He.eqO_ok h3, of_decide_eq_true h4, of_decide_eq_true h5, if_pos (beq_self_eq_true _)⟩
/-- what isinstance tells of the built-in kinds and of the classes (by their names), for one class -/
def kitB2 (K : PySem.W.Frag) (u : Value) (bt : List (String × Bool)) (ct : List (Str × Bool)) : Bool := (bt.all fun p => decide (PySem.W.kitOne K (.type p.1) u = some p.2)) && ct.all fun p => insB K p.1 && decide (PySem.W.kitOne K (.ref (He.ga K p.1)) u = some p.2)
theorem lookup_mem {α β : Type} [BEq α] [LawfulBEq α] : ∀ {l : List (α × β)} {a : α} {b : β}, l.lookup a = some b → (a, b) ∈ l
  | (x, y) :: l, a, b, h => by
    by_cases e : a = x
    · subst e
      simp only [List.lookup_cons, beq_self_eq_true, Option.some.injEq] at h
      subst h
      exact List.mem_cons_self ..
    · have : (a == x) = false := beq_eq_false_iff_ne.mpr e
      simp only [List.lookup_cons, this] at h
      exact List.mem_cons_of_mem _ (lookup_mem h)
theorem isOk_of {M : Md} {u : Value} {bt : List (String × Bool)} {ct : List (Str × Bool)} {cn : List (Nat × Str)} (hC : ∀ n x, (n, x) ∈ cn → M.C n = He.ga M.K x) (h : kitB2 M.K u bt ct = true) (ctn : List (Nat × Bool)) (hcn : (ctn.all fun p => match cn.lookup p.1 with
    | some x => ct.contains (x, p.2)
    | none => false) = true) : IsOk M u bt ctn := by
  obtain ⟨h1, h2⟩ := He.ba h
  constructor
  · intro T r e
    exact of_decide_eq_true (List.all_eq_true.mp h1 _ (lookup_mem e))
  · intro n r e
    have m := List.all_eq_true.mp hcn _ (lookup_mem e)
    cases ec : cn.lookup n with
    | none => simp [ec] at m
    | some x =>
      simp only [ec] at m
      have m2 : (x, r) ∈ ct := by simpa using m
      obtain ⟨k1, k2⟩ := He.ba (List.all_eq_true.mp h2 _ m2)
      rw [hC n x (lookup_mem ec)]
      exact ⟨insB_ok k1, of_decide_eq_true k2⟩
end Wp
end
section
set_option Elab.async false
set_option linter.all false
set_option maxRecDepth 100000
/-! WpV: forms for the printer. -/
namespace Wp
open PySem PySem.Spec PyProof.Rows L2

section
variable {M : Md} {S : Sc} {k : Nat} {W : WX} {X : Cx} {kp : List Nat} {a b c e : Expr} {es : List Expr} {fa fb fc : FO} {g : FL} {pos p : Pos} {x : Str}
theorem Cb.mono {j : Nat} {f : Addr} {F : FF} {n : Nat} {df : List D} (c : Cb M j f F n df) (h : j ≤ k) : Cb M k f F n df := by
  obtain ⟨fd, ps, G, hd⟩ := c.ex
  exact ⟨fd, ps, G.mono h, hd⟩
theorem Cb.of {f : Addr} {fd : FuncData} {ps : List Str} {F : FF} {n : Nat} (G : FnG M.prog M.w M.K M.mg M.base k f fd ps (spD M n F)) (hb : L2.Binds M.K fd ps []) : Cb M k f F n [] :=
  ⟨fd, ps, G, fun j hj => ⟨[], [], by
    have : j = 0 := by simpa using hj
    subst this
    rfl, .nil, hb⟩⟩
def fCallN (i : Fi) (na : Nat) (g : FL) : FO := fun η => bindR (g η) fun os η1 => if os.length = na then callR i.n i.ms i.F (i.dv na) os η1 else none
theorem ok_callN {i : Fi} {f : Addr} {na : Nat} (ok : Cok M S k W X) (hg : S.sc.names.lookup x = some .globalImplicit) (hm : M.mg x = some (.ref f)) (hk : PySem.W.keepIn M.K (.ref f) = true) (hdb : (x == ("__debug__" : Str)) = false)
    (c : Cb M k f i.F i.n i.df) (hs : (e :: es).all noStar = true) (hna : (e :: es).length = na) (hn : i.df.length + na - i.n ≤ i.df.length) (ha : OkL M X W (e :: es) g) : OkO M X W (.Call (.Name x p) (e :: es) [] pos) (fCallN i na g) := by
  subst hna
  exact ok_call ok hg hm hk hdb c hs hn ha
theorem ok_makeN {i : Fi} {c : Nat} {f : Addr} {j na : Nat} (ok : Cok M S (j + 1) W X) (hg : S.sc.names.lookup x = some .globalImplicit) (hm : M.mg x = some (.ref (M.C c))) (mk : Mk M.K (M.C c) f) (hdb : (x == ("__debug__" : Str)) = false)
    (cb : Cb M j f i.F i.n i.df) (hs : (e :: es).all noStar = true) (hna : (e :: es).length = na) (hn : i.df.length + (na + 1) - i.n ≤ i.df.length) (ha : OkL M X W (e :: es) g) : OkO M X W (.Call (.Name x p) (e :: es) [] pos) (fMake c na i g) := by
  subst hna
  exact ok_make ok hg hm mk hdb cb hs hn ha
theorem ok_methN {mt : Nat → Option Fi} {o : Expr} {fo : FO} {m : Str} {apos : Pos} {na : Nat} (ok : Cok M S k W X) (hmt : MtOk M k m na mt) (ho : OkO M X W o fo) (hna : (e :: es).length = na) (ha : OkL M X W (e :: es) g)
    (hb : baseOk o = true) (hs : (e :: es).all noStar = true) (hn : (e :: es).length < 30) (hl : (apos.endLine == pos.line) = true) : OkO M X W (.Call (.Attribute o m apos) (e :: es) [] pos) (fMeth mt m na fo g) := by
  subst hna
  exact ok_meth ok hmt ho ha hb hs hn hl
theorem Gl.blt {T : String} (gl : S.sc.names.lookup x = some .globalImplicit) (mg : M.mg x = none) (bo : bootBuiltins x = some (.type T)) (nn : x ≠ "__name__") (nd : (x == ("__debug__" : Str)) = false) : Bi M S x (.type T) := ⟨gl, mg, bo, nn, nd⟩
end
theorem gs_nil {ys : List Val} {η η1 : Wp.Env} (h : gsNil ys η = some η1) : ys.length = 0 := by
  cases ys with
  | nil => rfl
  | cons _ _ => cases h
theorem gs_cons {f : FG} {g : List Val → Wp.Env → Option Wp.Env} {n : Nat} (hg : ∀ {ys : List Val} {η η1 : Wp.Env}, g ys η = some η1 → ys.length = n) {ys : List Val} {η η1 : Wp.Env} (h : gsCons f g ys η = some η1) : ys.length = n + 1 := by
  cases ys with
  | nil => cases h
  | cons y ys =>
    simp only [gsCons, Option.bind_eq_some_iff] at h
    obtain ⟨η2, _, h2⟩ := h
    rw [List.length_cons, hg h2]
/-- what the boot knows -/
theorem bo_len : bootBuiltins "len" = some (.builtin "len") := by decide +kernel
theorem bo_sum : bootBuiltins "sum" = some (.builtin "sum") := by decide +kernel
theorem bo_max : bootBuiltins "max" = some (.builtin "max") := by decide +kernel
theorem bo_min : bootBuiltins "min" = some (.builtin "min") := by decide +kernel
theorem bo_abs : bootBuiltins "abs" = some (.builtin "abs") := by decide +kernel
theorem bo_repr : bootBuiltins "repr" = some (.builtin "repr") := by decide +kernel
theorem bo_sorted : bootBuiltins "sorted" = some (.builtin "sorted") := by decide +kernel
theorem bo_isinstance : bootBuiltins "isinstance" = some (.builtin "isinstance") := by decide +kernel
theorem bo_int : bootBuiltins "int" = some (.type "int") := by decide +kernel
theorem bo_bool : bootBuiltins "bool" = some (.type "bool") := by decide +kernel
theorem bo_str : bootBuiltins "str" = some (.type "str") := by decide +kernel
theorem bo_list : bootBuiltins "list" = some (.type "list") := by decide +kernel
theorem bo_tuple : bootBuiltins "tuple" = some (.type "tuple") := by decide +kernel
theorem bo_dict : bootBuiltins "dict" = some (.type "dict") := by decide +kernel
theorem bo_set : bootBuiltins "set" = some (.type "set") := by decide +kernel
end Wp
namespace Wp
open PySem PySem.Spec PyProof.Rows L2
theorem law_sp {M : Md} {F : FF} {ns : List Int} {a : Addr} {H : Hp} (h : ∃ θ, F [.sh (.lst (ns.map .int))] = some (.ok (.sh (.bl true)) θ)) (hS : SqL M.K H a (ns.map V.int)) : spD M 1 F [.ref a] H (fun v _ => v = .bl true) fun _ _ _ => False := by
  obtain ⟨θ, h⟩ := h
  refine ⟨rfl, [.sh (.lst (ns.map .int))], [], H, _, ⟨Le.refl, ⟨.ref a, [], [], [], rfl, rfl, RepV.sh_iff.mpr ⟨rfl, ?_⟩, rfl, rfl⟩, List.nodup_nil, fun _ z => nomatch z⟩, h, fun v as' H' Hs' r _ => ?_⟩
  · simp only [RepD]
    exact ⟨a, ns.map V.int, rfl, hS, RepDs.ofInts ns⟩
  · obtain ⟨u, σ, a1, a2, e1, rfl, rv, _⟩ := r.env
    obtain ⟨e2, rfl⟩ := List.cons.inj e1
    obtain rfl := Option.some.inj e2
    obtain ⟨rfl, rd⟩ := RepV.sh_iff.mp rv
    simpa only [RepD] using rd
end Wp
end
section
set_option Elab.async false
set_option linter.all false
set_option maxRecDepth 100000
/-! WpW: rules for running the data semantics, one by one. -/
namespace Wp
open PySem PySem.Spec PyProof.Rows L2

structure Lf (p : Prop) : Prop where
  h : p
structure Gp (p : Prop) : Prop where
  h : p
structure Sz (p : Prop) : Prop where
  h : p
section
variable {η η0 η1 η2 η3 η4 : Env} {o p : Opv} {os : List Opv} {fa fb fc f : FO} {g : FL} {x y z : Val} {d e : D} {ds : List D} {i j : Nat} {b : Bool}
theorem e_var (h : Lf (η[i]? = some (some y))) : fVar i η = some (.ok (.slot i) η) := by
  unfold fVar
  rw [h.h]
  rfl
theorem e_lit : fLit d η = some (.ok (.pend (.sh d)) η) := rfl
theorem e_app1 {g : D → Option Val} (h : Lf (prepAll [o] η = some ([d], η1))) (hg : Gp (g d = some z)) : appR (p1 g) [o] η = some (.ok (.pend z) η1) := by
  unfold appR
  rw [h.h]
  simp only [p1, hg.h, okR]
theorem e_app2 {g : D → D → Option Val} (h : Lf (prepAll [o, p] η = some ([d, e], η1))) (hg : Gp (g d e = some z)) : appR (p2 g) [o, p] η = some (.ok (.pend z) η1) := by
  unfold appR
  rw [h.h]
  simp only [p2, hg.h, okR]
theorem e_f1 {pr : List D → Option Val} {r : RO Opv} (h : fa η = some (.ok o η1)) (hp : appR pr [o] η1 = r) : f1 fa pr η = r := by
  unfold f1
  rw [h]
  exact hp
theorem e_f2 {pr : List D → Option Val} {r : RO Opv} (h : fa η = some (.ok o η1)) (h2 : fb η1 = some (.ok p η2)) (hp : appR pr [o, p] η2 = r) : f2 fa fb pr η = r := by
  unfold f2
  rw [h, bindR_some, h2]
  exact hp
theorem e_fn {pr : List D → Option Val} {r : RO Opv} (h : g η = some (.ok os η1)) (hp : appR pr os η1 = r) : fn g pr η = r := by
  unfold fn
  rw [h]
  exact hp
theorem e_nil : fNil η = some (.ok [] η) := rfl
theorem e_cons (h : f η = some (.ok o η1)) (h2 : g η1 = some (.ok os η2)) : fCons f g η = some (.ok (o :: os) η2) := by
  unfold fCons
  rw [h, bindR_some, h2]
  rfl
theorem ok_ok {α : Type} {a : α} : okR a η = some (.ok a η) := rfl
theorem c_t {α : Type} {b : Bool} {x y r : α} (hb : b = true) (h : x = r) : (if b = true then x else y) = r := by
  rw [if_pos hb]
  exact h
theorem c_f {α : Type} {b : Bool} {x y r : α} (hb : b = false) (h : y = r) : (if b = true then x else y) = r := by
  rw [if_neg (by rw [hb]; decide)]
  exact h
/-! tests -/
theorem e_bl (h : f η = some (.ok (.pend (.sh (.bl b))) η1)) : fBl f η = some (.ok b η1) := by
  unfold fBl
  rw [h]
  rfl
theorem e_tru (h : f η = some (.ok o η1)) (h2 : Lf (prepAll [o] η1 = some ([d], η2))) (h3 : Gp (truthD d = some b)) : fTru f η = some (.ok b η2) := by
  unfold fTru truR
  rw [h, bindR_some]
  simp only [h2.h, h3.h, okR]
variable {ca cb : FT}
theorem e_notT (h : ca η = some (.ok b η1)) : fNotT ca η = some (.ok (!b) η1) := by
  unfold fNotT
  rw [h]
  rfl
theorem e_andT {r : RO Bool} (h : ca η = some (.ok b η1)) (h2 : (if b = true then cb η1 else okR false η1) = r) : fAndT ca cb η = r := by
  unfold fAndT
  rw [h]
  exact h2
theorem e_orT {r : RO Bool} (h : ca η = some (.ok b η1)) (h2 : (if b = true then okR true η1 else cb η1) = r) : fOrT ca cb η = r := by
  unfold fOrT
  rw [h]
  exact h2
theorem e_andV {r : RO Opv} (h : fa η = some (.ok (.pend (.sh (.bl b))) η1)) (h2 : (if b = true then fb η1 else okR (.pend (.sh (.bl false))) η1) = r) : fAndV fa fb η = r := by
  unfold fAndV
  rw [h]
  exact h2
theorem e_orV {r : RO Opv} (h : fa η = some (.ok (.pend (.sh (.bl b))) η1)) (h2 : (if b = true then okR (.pend (.sh (.bl true))) η1 else fb η1) = r) : fOrV fa fb η = r := by
  unfold fOrV
  rw [h]
  exact h2
theorem e_notV (h : fa η = some (.ok (.pend (.sh (.bl b))) η1)) : fNotV fa η = some (.ok (.pend (.sh (.bl (!b)))) η1) := by
  unfold fNotV
  rw [h]
  rfl
theorem e_ite {r : RO Opv} (h : ca η = some (.ok b η1)) (h2 : (if b = true then fa η1 else fb η1) = r) : fIte ca fa fb η = r := by
  unfold fIte
  rw [h]
  exact h2
/-! displays, slices, comprehensions -/
variable {xs ys : List Val} {k : List Val → Val}
theorem e_disp (h : g η = some (.ok os η1)) (h2 : Lf (escAll os η1 = some (xs, η2))) (h3 : Sz (xs.length ≤ sizeLine)) (h4 : Lf (k xs = z)) : fDisp k g η = some (.ok (.pend z) η2) := by
  unfold fDisp
  rw [h, bindR_some]
  simp only [h2.h]
  rw [if_pos h3.h, h4.h]
  rfl
theorem e_pt0 : fPart none η = some (.ok none η) := rfl
theorem e_pt1 {i : Int} (h : f η = some (.ok o η1)) (h2 : Lf (prepAll [o] η1 = some ([.int i], η2))) : fPart (some f) η = some (.ok (some i) η2) := by
  unfold fPart
  simp only [h, bindR_some, h2.h, okR]
theorem e_slice {fl fh : Option FO} {l h : Option Int} (h1 : fa η = some (.ok o η1)) (h2 : fPart fl η1 = some (.ok l η2)) (h3 : fPart fh η2 = some (.ok h η3)) (h4 : Lf (prepAll [o] η3 = some ([d], η4))) (h5 : Gp (gSl l h d = some z)) : fSlice fa fl fh η = some (.ok (.pend z) η4) := by
  unfold fSlice
  rw [h1, bindR_some, h2, bindR_some, h3, bindR_some]
  exact e_app1 h4 h5
variable {it : FI} {gt : FG} {body : FS} {vs : List Nat} {n : Nat}
theorem e_lc {r : RO Opv} (h : it η = some (.ok ys η1)) (h2 : Lf (η1.length = n)) (h3 : Lf (wipeE η1 vs = η2)) (h4 : loopC n vs gt ca f ys [] η2 = r) : fLc n vs it gt ca f η = r := by
  unfold fLc
  rw [h, bindR_some, if_pos h2.h, h3.h]
  exact h4
theorem lc_nil {acc acc' : List Val} (h : Lf (acc = acc')) : loopC n vs gt ca f [] acc η = some (.ok (.pend (.ol acc')) η) := by
  rw [h.h]
  rfl
def putC (n : Nat) (vs : List Nat) (gt : FG) (ca : FT) (f : FO) (ys acc : List Val) : FO := fun η => bindR (f η) fun o η3 => match esc1 o η3 with
  | some (z, η4) => if acc.length < sizeLine then loopC n vs gt ca f ys (acc ++ [z]) (wipeE η4 vs) else none
  | none => none
def skipC (n : Nat) (vs : List Nat) (gt : FG) (ca : FT) (f : FO) (ys acc : List Val) : FO := fun η => loopC n vs gt ca f ys acc (wipeE η vs)
theorem lc_cons {acc : List Val} {ro : Opv} {η9 : Env} (h : Lf (gt y η = some η1)) (h2 : Lf (η1.length = n)) (h3 : ca η1 = some (.ok b η2)) (h4 : (if b = true then putC n vs gt ca f ys acc η2 else skipC n vs gt ca f ys acc η2) = some (.ok ro η9)) : loopC n vs gt ca f (y :: ys) acc η = some (.ok ro η9) := by
  simp only [loopC, h.h, h2.h, if_true, h3]
  cases b with
  | false => exact h4
  | true =>
    rw [if_pos rfl] at h4
    unfold putC at h4
    cases e : f η2 with
    | none => rw [e] at h4; cases h4
    | some r => cases r with
      | exc _ _ _ => rw [e] at h4; cases h4
      | ok o η3 =>
        rw [e, bindR_some] at h4
        cases e3 : esc1 o η3 with
        | none => simp only [e3] at h4; cases h4
        | some zz =>
          obtain ⟨z, η4⟩ := zz
          simp only [e3] at h4
          simp only [if_true, e, e3]
          exact h4
theorem lc_put {acc acc' : List Val} {r : RO Opv} (h : f η = some (.ok o η1)) (h2 : Lf (esc1 o η1 = some (z, η2))) (h3 : Sz (acc.length < sizeLine)) (h4 : Lf (wipeE η2 vs = η3)) (h6 : Lf (acc ++ [z] = acc')) (h5 : loopC n vs gt ca f ys acc' η3 = r) : putC n vs gt ca f ys acc η = r := by
  unfold putC
  rw [h, bindR_some]
  simp only [h2.h, if_pos h3.h, h4.h, h6.h, h5]
theorem lc_skip {acc : List Val} {r : RO Opv} (h4 : Lf (wipeE η vs = η3)) (h5 : loopC n vs gt ca f ys acc η3 = r) : skipC n vs gt ca f ys acc η = r := by
  unfold skipC
  rw [h4.h]
  exact h5
theorem e_yes : fYes η = some (.ok true η) := rfl
/-! iterables -/
def itemsX (y : Val) : Option (List Val) := match itemsL y with
  | some ys => some ys
  | none => itemsT y
theorem e_seqI (h : f η = some (.ok o η1)) (h2 : Lf (esc1 o η1 = some (y, η2))) (h3 : Gp (itemsX y = some ys)) : fSeqI f η = some (.ok ys η2) := by
  unfold fSeqI
  rw [h, bindR_some]
  simp only [h2.h]
  have h3 := h3.h
  unfold itemsX at h3
  cases e : itemsL y with
  | some zs =>
    rw [e] at h3
    obtain rfl := Option.some.inj h3
    rfl
  | none =>
    rw [e] at h3
    simp only at h3 ⊢
    rw [h3]
    rfl
theorem e_enum (h : f η = some (.ok o η1)) (h2 : Lf (esc1 o η1 = some (y, η2))) (h3 : Gp (shItems y = some ds)) : fEnum f η = some (.ok (numV 0 ds) η2) := by
  unfold fEnum
  rw [h, bindR_some]
  simp only [h2.h, h3.h, okR]
theorem e_rng1 {j : Int} (h : g η = some (.ok [o] η1)) (h2 : Lf (prepAll [o] η1 = some ([.int j], η2))) (h3 : Sz (small62 j = true)) : fRng1 g η = some (.ok (rngV 0 j.toNat) η2) := by
  unfold fRng1 dataR
  rw [h, bindR_some]
  simp only [List.length_cons, List.length_nil, Nat.zero_add, if_true, h2.h, okR, bindR_some, h3.h]
theorem e_rng2 {i j : Int} (h : g η = some (.ok [o, p] η1)) (h2 : Lf (prepAll [o, p] η1 = some ([.int i, .int j], η2))) (h3 : Sz (small62 i = true)) (h4 : Sz (small62 j = true)) : fRng2 g η = some (.ok (rngV i (j - i).toNat) η2) := by
  unfold fRng2 dataR
  rw [h, bindR_some]
  simp only [List.length_cons, List.length_nil, Nat.zero_add, Nat.reduceAdd, if_true, h2.h, okR, bindR_some, h3.h, h4.h, Bool.and_self]
/-! calls -/
variable {F : FF} {ms : List Bool} {na : Nat} {θ : Env} {q : Fi}
theorem callR_e (h : Lf (argAll ms os η = some (xs, η1))) (h2 : os.length = n) (hF : F xs = some (.ok x θ)) (hb : backAll os θ η1 = η2) : callR n ms F [] os η = some (.ok (.pend x) η2) := by
  unfold callR
  rw [h.h]
  simp only [List.length_nil, Nat.add_zero, h2, if_true, List.map_nil, List.append_nil, hF, hb]
theorem e_call (hi : Lf (q = ⟨F, n, ms, []⟩)) (hg : g η = some (.ok os η1)) (ha : Lf (argAll ms os η1 = some (xs, η2))) (hn : Lf (os.length = na)) (hn2 : Lf (os.length = n)) (hF : F xs = some (.ok x θ)) (hb : Lf (backAll os θ η2 = η3)) : fCallN q na g η = some (.ok (.pend x) η3) := by
  obtain ⟨rfl⟩ := hi
  unfold fCallN
  rw [hg, bindR_some, if_pos hn.h]
  simp only [show (Fi.dv ⟨F, n, ms, []⟩ na) = [] from by simp [Fi.dv]]
  exact callR_e ha hn2.h hF hb.h
theorem e_make {c : Nat} (hi : Lf (q = ⟨F, n, ms, []⟩)) (hg : g η = some (.ok os η1)) (ha : Lf (argAll ms (.pend (.oi c [] []) :: os) η1 = some (xs, η2))) (hn : Lf (os.length = na)) (hn2 : Lf (os.length + 1 = n)) (hF : F xs = some (.ok (.sh .non) (some y :: θ))) (hb : Lf (backAll os θ η2 = η3)) :
    fMake c na q g η = some (.ok (.pend y) η3) := by
  obtain ⟨rfl⟩ := hi
  unfold fMake
  rw [hg, bindR_some, if_pos hn.h]
  simp only [show (Fi.dv ⟨F, n, ms, []⟩ (na + 1)) = [] from by simp [Fi.dv]]
  unfold makeR
  rw [ha.h]
  simp only [List.length_nil, Nat.add_zero, hn2.h, if_true, List.map_nil, List.append_nil, hF, hb.h]
theorem e_meth {mt : Nat → Option Fi} {m : Str} {c : Nat} {fs : List Str} (ho : fa η = some (.ok o η1)) (hc : Lf (o.cls η1 = some (c, fs))) (hm : Lf ((decide (m ∈ fs)) = false)) (hi : Lf (mt c = some ⟨F, n, ms, []⟩))
    (hg : g η1 = some (.ok os η2)) (ha : Lf (argAll ms (o :: os) η2 = some (xs, η3))) (hn : Lf (os.length = na)) (hn2 : Lf (os.length + 1 = n)) (hF : F xs = some (.ok x θ)) (hb : Lf (backAll (o :: os) θ η3 = η4)) : fMeth mt m na fa g η = some (.ok (.pend x) η4) := by
  unfold fMeth
  rw [ho, bindR_some]
  simp only [hc.h]
  rw [if_neg (of_decide_eq_false hm.h)]
  simp only [hi.h, hg, bindR_some, if_pos hn.h]
  simp only [show (Fi.dv ⟨F, n, ms, []⟩ (na + 1)) = [] from by simp [Fi.dv]]
  exact callR_e ha hn2.h hF hb.h
theorem e_attr {fd : Nat → Bool} {pt : Nat → Option Fi} {m : Str} {c : Nat} {fs : List Str} (ho : fa η = some (.ok o η1)) (hc : Lf (o.cls η1 = some (c, fs))) (hm : Lf ((decide (m ∈ fs)) = true)) (hf : Lf (fd c = true)) (hp : Lf (prepAll [o] η1 = some (ds, η2))) (hg : Gp (fieldG m ds = some z)) :
    fAttr fd pt m fa η = some (.ok (.pend z) η2) := by
  unfold fAttr
  rw [ho, bindR_some]
  simp only [hc.h]
  rw [if_pos (of_decide_eq_true hm.h), if_pos hf.h]
  unfold appR
  rw [hp.h]
  simp only [hg.h, okR]
/-! statements -/
variable {w : Flw} {s t : FS}
def sqF : Flw → FS → FS
  | .next, t, η => t η
  | w, _, η => okR w η
theorem e_seq {r : RO Flw} (h : s η = some (.ok w η1)) (h2 : sqF w t η1 = r) : fSeq s t η = r := by
  unfold fSeq
  rw [h, bindR_some, ← h2]
  cases w <;> rfl
theorem sq_n {r : RO Flw} (h : t η = r) : sqF .next t η = r := h
theorem sq_r : sqF (.ret x) t η = some (.ok (.ret x) η) := rfl
theorem sq_b : sqF .brk t η = some (.ok .brk η) := rfl
theorem sq_c : sqF .cont t η = some (.ok .cont η) := rfl
theorem e_set (h : f η = some (.ok o η1)) (h2 : Lf (esc1 o η1 = some (x, η2))) (h3 : Lf (decide (i < η2.length) = true)) (h4 : Lf (η2.set i (some x) = η3)) : fSet i f η = some (.ok .next η3) := by
  unfold fSet
  rw [h, bindR_some]
  simp only [h2.h]
  rw [if_pos (of_decide_eq_true h3.h), h4.h]
  rfl
theorem e_par (h : g η = some (.ok os η1)) (h2 : Lf (escAll os η1 = some ([x, y], η2))) (h3 : Lf (decide (i < η2.length ∧ j < η2.length) = true)) (h4 : Lf ((η2.set i (some x)).set j (some y) = η3)) : fPar i j g η = some (.ok .next η3) := by
  unfold fPar
  rw [h, bindR_some]
  simp only [h2.h]
  rw [if_pos (of_decide_eq_true h3.h), h4.h]
  rfl
theorem e_asg (h : f η = some (.ok o η1)) (h2 : Lf (esc1 o η1 = some (x, η2))) (h3 : Lf (gt x η2 = some η3)) : fAsg gt f η = some (.ok .next η3) := by
  unfold fAsg
  rw [h, bindR_some]
  simp only [h2.h, h3.h, okR]
theorem e_expr (h : f η = some (.ok o η1)) : fExpr f η = some (.ok .next η1) := by
  unfold fExpr
  rw [h]
  rfl
theorem e_app {us : List Val} (h : Lf (η[i]? = some (some (.ol us)))) (h1 : f η = some (.ok o η1)) (h2 : Lf (esc1 o η1 = some (z, η2))) (h3 : Lf (η2[i]? = some (some (.ol xs)))) (h4 : Sz (xs.length < sizeLine)) (h5 : Lf (η2.set i (some (.ol (xs ++ [z]))) = η3)) :
    fApp i f η = some (.ok (.pend (.sh .non)) η3) := by
  unfold fApp
  rw [h.h]
  simp only [h1, bindR_some, h2.h, h3.h]
  rw [if_pos h4.h, h5.h]
  rfl
theorem e_ret (h : f η = some (.ok o η1)) (h2 : Lf (esc1 o η1 = some (x, η2))) : fRet f η = some (.ok (.ret x) η2) := by
  unfold fRet
  rw [h, bindR_some]
  simp only [h2.h, okR]
theorem e_retN : fRetN η = some (.ok (.ret (.sh .non)) η) := rfl
theorem e_nxt : fNext η = some (.ok .next η) := rfl
theorem e_flw : fFlw w η = some (.ok w η) := rfl
theorem e_if {r : RO Flw} (h : ca η = some (.ok b η1)) (h2 : (if b = true then s η1 else t η1) = r) : fIf ca s t η = r := by
  unfold fIf
  rw [h]
  exact h2
theorem e_for {r : RO Flw} (h : it η = some (.ok ys η1)) (h2 : loopF gt body ys η1 = r) : fFor gt body it η = r := by
  unfold fFor
  rw [h]
  exact h2
theorem lp_nil : loopF gt body [] η = some (.ok .next η) := rfl
def lpF (gt : FG) (body : FS) (ys : List Val) : Flw → FS
  | .next, η => loopF gt body ys η
  | .cont, η => loopF gt body ys η
  | .brk, η => okR .next η
  | .ret x, η => okR (.ret x) η
theorem lp_cons {r : RO Flw} (h : Lf (gt y η = some η1)) (h2 : body η1 = some (.ok w η2)) (h3 : lpF gt body ys w η2 = r) : loopF gt body (y :: ys) η = r := by
  simp only [loopF, h.h, h2]
  rw [← h3]
  cases w <;> rfl
theorem lp_n {r : RO Flw} (h : loopF gt body ys η = r) : lpF gt body ys .next η = r := h
theorem lp_c {r : RO Flw} (h : loopF gt body ys η = r) : lpF gt body ys .cont η = r := h
theorem lp_b : lpF gt body ys .brk η = some (.ok .next η) := rfl
theorem lp_r : lpF gt body ys (.ret x) η = some (.ok (.ret x) η) := rfl
theorem e_setI {v : D} {j : Int} {nn : Nat} (h : fa η = some (.ok o η1)) (h2 : Lf (escS o η1 = some (v, η2))) (h3 : Lf (isOl η2 i = true)) (h4 : fb η2 = some (.ok p η3)) (h5 : Lf (prepAll [p] η3 = some ([.int j], η4))) (h6 : Lf (η4[i]? = some (some y))) (h7 : Lf (shList y = some ds)) (h8 : Lf (ixN ds.length j = some nn))
    (h9 : Lf (η4.set i (some (.ol ((ds.set nn v).map .sh))) = η0)) : fSetI i fa fb η = some (.ok .next η0) := by
  unfold fSetI
  rw [h, bindR_some]
  simp only [h2.h, h3.h, if_true, h4, bindR_some, h5.h, h6.h, h7.h, h8.h, h9.h, okR]
theorem e_setF {fd : Nat → Bool} {m : Str} {v : D} {c : Nat} {fs : List Str} (h : f η = some (.ok o η1)) (h2 : Lf (escS o η1 = some (v, η2))) (h3 : Lf (η2[i]? = some (some y))) (h4 : Lf (shObj y = some (c, fs, ds))) (h5 : Lf (decide (fd c = true ∧ fs.length < 1000) = true)) (h6 : Lf (η2.set i (some (.oi c (putFs m fs) ((putAs m v fs ds).map .sh))) = η3)) :
    fSetF fd i m f η = some (.ok .next η3) := by
  unfold fSetF
  rw [h, bindR_some]
  simp only [h2.h, h3.h, h4.h]
  rw [if_pos (of_decide_eq_true h5.h), h6.h]
  rfl
/-! a def -/
def outF (raw : Bool) : Flw → Option Val
  | .ret x => some (if raw then x else .sh x.d)
  | .next => some (.sh .non)
  | _ => none
theorem e_sem {len : Nat} {kp : List Nat} {raw : Bool} (h0 : Lf (xs.map some ++ List.replicate (len - xs.length) none = η)) (h : s η = some (.ok w η1)) (h2 : Lf (outF raw w = some y)) (h3 : Lf (decide (n ≤ η1.length) = true)) (h4 : Lf (theta kp 0 n η1 = θ)) : semF n len kp raw s xs = some (.ok y θ) := by
  unfold semF
  rw [h0.h, h]
  have h2 := h2.h
  have h3 := of_decide_eq_true h3.h
  cases w with
  | ret x =>
    simp only [outF, Option.some.injEq] at h2
    simp only [if_pos h3, h2, h4.h]
  | next =>
    simp only [outF, Option.some.injEq] at h2
    simp only [if_pos h3, h2, h4.h]
  | brk => cases h2
  | cont => cases h2
end
end Wp
end
section
set_option Elab.async false
set_option linter.all false
set_option maxRecDepth 100000
set_option maxHeartbeats 1000000
/-! WpX: != where a class has an own == alone. -/
namespace Wp
open PySem PySem.Spec PyProof.Rows L2
section
variable {prog : Program} {w : World} {A : Around} {E : Value → Shared → Prop} {s : Shared} {K : PySem.W.Frag} {x C L f : Addr} {h₀ : Heap} {m : Str → Option Value} {ox : Obj} {od : Option Obj} {b tb : Value}
theorem check_obj {M : Model} {id n : String} {rest : List Value} {Q : Unit → Shared → Prop} (hk : builtinKind id = some .slot) (hs : splitId id = some ("object", n)) (ha : argsOk id ⟨.ref x :: rest, []⟩)
    (X : K.In s.heap) (I : PySem.W.InstAt s.heap x ox C od) (hm : PySem.W.mroIn K C (.type "object") = some true) (hq : Q () s) : wpAny M A (checkBuiltinCall id ⟨.ref x :: rest, []⟩) Q E s := by
  simp only [checkBuiltinCall, hk, hs]
  refine wpAny_bind ?_
  · unfold isInstance
    have L0 := I.type (M := M)
    have L1 := PySem.W.looks_mroIn (M := M) X hm
    refine wpAny_bind (L0.here ?_)
    refine L1.here ?_
    repeat (first | wp_step)
    cases hsig : Manifest.signature? id with
    | none => exact wpAny_pure hq
    | some sig =>
      simp only [argsOk, hsig] at ha
      have h2 : Bind.checkArgs id sig ⟨.ref x :: rest, []⟩ = pure () := ha
      show wpAny M A (Bind.checkArgs id sig ⟨.ref x :: rest, []⟩) Q E _
      rw [h2]
      exact wpAny_pure hq
theorem ifBound_B {M : Model} {id : String} {name : Str} {args : List Value} {Q : Option Value → Shared → Prop} (X : K.In s.heap) (I : PySem.W.InstAt s.heap x ox C od) (hs : PySem.W.findIn K (.ref C) name = some (some (.builtin id))) (S : Slot "object" name id)
    (h : wpAny M A (call (.builtin id) (.ref x :: args)) (fun v => Q (some v)) E s) : wpAny M A (callSpecialIfBound? (.ref x) name args) Q E s := by
  simp only [callSpecialIfBound?, bindSpecialIfBound?]
  refine wpAny_holding (wpAny_bind (wpAny_bind (wpAny_bind (I.type.here ((PySem.W.looks_findIn X hs).here ?_)))))
  simp only [S.bind]
  refine wpAny_bind (wpAny_askSetting (wpAny_ite ?_))
  have fin : wpAny M A (call (.builtin id) ([.ref x] ++ args) >>= fun v => pure (some v)) Q E s :=
    wpAny_bind (wpAny_mono h (fun v s' h' => wpAny_pure h') fun _ _ h' => h')
  split
  · exact wpAny_bind (wpAny_pure (wpAny_pure fin))
  · exact wpAny_tryCatch (wpAny_bind (wpAny_pure (wpAny_pure fin)))
/-- what is left when an own == has answered -/
def NeBack (Q : Value → Shared → Prop) (v : Value) (s' : Shared) : Prop := ∃ r, v = .bool r ∧ Q (.bool (!r)) s'
theorem ne_K {Q : Value → Shared → Prop} (hu : A.units + 1 < cLine) (X : K.In s.heap) (I : PySem.W.InstAt s.heap x ox C od) (hb : PySem.W.Looks (model prog w) s.heap (typeOf b) tb) (hn : PySem.W.notFirst K C tb = true)
    (hne : PySem.W.findIn K (.ref C) "__ne__" = some (some (.builtin "object.__ne__"))) (hm : PySem.W.mroIn K C (.type "object") = some true) (hs : PySem.W.findIn K (.ref C) "__eq__" = some (some (.ref f))) (hf : PySem.W.isFn K (.ref f) = true)
    (h : wpAny (model prog w) A.in1 (call (.ref f) [.ref x, b]) (NeBack Q) E s) : wpAny (model prog w) A (richCompare .NotEq (.ref x) b) Q E s := by
  have hu0 : A.units < cLine := Nat.lt_of_succ_lt hu
  have ent : wpAny (model prog w) A.in1 (Builtin.«object.__ne__» ⟨[.ref x, b], []⟩) (fun fin s' => ∃ v, fin = .done (.ret v) ∧ v ≠ .notImplemented ∧ Q v s') E s := by
    unfold Builtin.«object.__ne__»
    have one : wpAny (model prog w) A.in1 (callSpecialIfBound? (.ref x) "__eq__" [b]) (fun r s' => ∃ t, r = some (.bool t) ∧ Q (.bool (!t)) s') E s :=
      PySem.W.ifBound_K X I hs hf (wpAny_mono h (fun v s' ⟨t, e, q⟩ => ⟨t, by rw [e], q⟩) fun _ _ e => e)
    have sa : slotArgs "__ne__" 1 ⟨[.ref x, b], []⟩ = pure (.ref x, [b]) := by rfl
    rw [sa]
    refine wpAny_bind (wpAny_pure ?_)
    refine wpAny_bind (wpAny_cRoomFor (show A.in1.units < cLine from hu) ?_)
    refine wpAny_bind (wpAny_mono one (fun r s' ⟨t, e, q⟩ => ?_) fun _ _ e => e)
    subst e
    show wpAny _ _ (do let r ← truthy (.bool t); ret (.bool (!r))) _ _ _
    refine wpAny_bind (wpAny_pure ?_)
    exact wpAny_pure ⟨_, rfl, by simp, q⟩
  have two : wpAny (model prog w) A (tryCompare (.ref x) "__ne__" b) (fun r s' => ∃ v, r = some v ∧ Q v s') E s := by
    unfold tryCompare
    refine wpAny_bind (ifBound_B X I hne F.cmp_object.ne ?_)
    refine wpAny_call (codeAny_call_builtin F.cmp_object.ne.plain F.cmpEntry_ne (check_obj F.cmpKind_ne F.cmpSplit_ne (F.cmpArgs_ne _ _) X I hm ?_))
    refine wpAny_mono ent (fun fin s' ⟨v, e, nn, q⟩ => ?_) fun _ _ e => e
    subst e
    cases v <;> first | exact absurd rfl nn | exact wpAny_pure ⟨_, rfl, q⟩
  unfold richCompare
  simp only [oneThing_ref, cmpInfo_NotEq]
  refine wpAny_holding (wpAny_bind (wpAny_cRoomFor hu0 ?_))
  refine wpAny_bind (I.type.here (wpAny_bind (hb.here ?_)))
  split
  · rename_i q
    have e : PySem.W.subIn K tb (.ref C) = some false := by
      rcases Bool.or_eq_true_iff.mp hn with e | e
      · rw [beq_iff_eq.mp e] at q; simp at q
      · exact beq_iff_eq.mp e
    refine wpAny_bind ((PySem.W.looks_subIn X e).here ?_)
    simp only [Bool.false_eq_true, if_false]
    refine wpAny_bind (wpAny_mono two (fun r s' z => ?_) fun _ _ e => e)
    obtain ⟨v, rfl, hq⟩ := z
    exact wpAny_pure hq
  · refine wpAny_bind (wpAny_pure ?_)
    simp only [Bool.false_eq_true, if_false]
    refine wpAny_bind (wpAny_mono two (fun r s' z => ?_) fun _ _ e => e)
    obtain ⟨v, rfl, hq⟩ := z
    exact wpAny_pure hq
end
end Wp
end
section
set_option Elab.async false
set_option linter.all false
set_option maxRecDepth 100000
set_option maxHeartbeats 1000000
/-! WpY: != by an own ==; three parallel locals; xs[::-1]. -/
namespace Wp
open PySem PySem.Spec PyProof.Rows L2
def rNeO (X : Cx) (k : Nat) : R2 := fun x y H Q => ∃ a b C f fd ps sp dvs ds dx dy fs gs, x = .ref a ∧ y = .ref b ∧ H a = some (.ins C dx fs) ∧ H b = some (.ins C dy gs) ∧ PySem.W.findIn X.K (.ref C) "__eq__" = some (some (.ref f)) ∧ PySem.W.isFn X.K (.ref f) = true ∧
  PySem.W.findIn X.K (.ref C) "__ne__" = some (some (.builtin "object.__ne__")) ∧ PySem.W.mroIn X.K C (.type "object") = some true ∧
  FnG X.prog X.w X.K X.mg X.base k f fd ps sp ∧ L2.Binds X.K fd ps ds ∧ Vals dvs ds ∧ sp (.ref a :: .ref b :: dvs) H (fun v H' => ∃ r, v = .bl r ∧ Q (.bl (!r)) H') (fun _ _ _ => False)
theorem op_neO {X : Cx} {k : Nat} (gd : X.A.guards = some []) (hr : Room (k + 1) X.A) : OpR X (compareOp .NotEq) (rNeO X k) := by
  intro pins s σ H x y v u Q I rx ry h
  obtain ⟨a, b, C, f, fd, ps, sp, dvs, ds, dx, dy, fs, gs, rfl, rfl, ha, hb, hs, hf, hne, hm, F, hbi, hd, hq⟩ := h
  cases rx
  cases ry
  obtain ⟨mA, J, _⟩ := ins_get I.hok ha
  obtain ⟨mB, J', _⟩ := ins_get I.hok hb
  obtain ⟨od, J, _⟩ := J.look
  obtain ⟨od', J', _⟩ := J'.look
  show wpAny (model X.prog X.w) X.A (richCompare .NotEq (.ref a) (.ref b)) (EP X pins σ Q) X.xe s
  refine ne_K (tb := .ref C) (by have := hr.un; omega) I.kIn J J'.type (by simp [PySem.W.notFirst]) hne hm hs hf ?_
  have rr : Vals (V.ref a :: V.ref b :: dvs) (Value.ref a :: Value.ref b :: ds) := .cons rfl (.cons rfl hd)
  have hl : ([Value.ref a, Value.ref b] ++ ds).length = ps.length := by
    have := F.len _ _ _ _ hq
    rw [rr.length] at this
    exact this
  have e0 : Env0 X.prog X.w X.K X.mg X.base X.A.in1 X.stack s H := by
    have e := I.env0
    exact ⟨e.frames, e.mod, e.bs, e.bsz, e.funs, e.frf, e.hok, e.bare⟩
  have run := F.run X.A.in1 X.stack s H ⟨[.ref a, .ref b], []⟩ _ _ _ _ gd hr.in1 e0 (hbi s [.ref a, .ref b] I.kIn hl) rr hq
  refine wpAny_call (codeAny_mono run fun res s' hres => ?_)
  rcases res with er | fl
  · obtain ⟨_, _, _, _, _, _, _, _, _, _, _, _, z⟩ := hres
    exact z.elim
  · cases fl with
    | ret w =>
      obtain ⟨z, H', I', rz, r, ez, q⟩ := I.after hres
      subst ez
      cases rz
      exact ⟨r, rfl, .bl (!r), H', I', rfl, q⟩
    | _ => exact hres.elim
/-- != by a class's own == -/
def NeOk (M : Md) (k : Nat) (mt : Nat → Option Fi) : Prop := ∀ c i, mt c = some i → ∃ f, PySem.W.findIn M.K (.ref (M.C c)) "__eq__" = some (some (.ref f)) ∧ PySem.W.isFn M.K (.ref f) = true ∧ PySem.W.findIn M.K (.ref (M.C c)) "__ne__" = some (some (.builtin "object.__ne__")) ∧ PySem.W.mroIn M.K (M.C c) (.type "object") = some true ∧
  Cb M k f i.F i.n i.df ∧ i.df.length + 2 - i.n ≤ i.df.length
def fNeO (mt : Nat → Option Fi) (fa fb : FO) : FO := fun η => bindR (fa η) fun o η1 => bindR (fb η1) fun o2 η2 => match o.cls η2, o2.cls η2 with
  | some (c, _), some (c2, _) => if c = c2 then (match mt c with
    | some i => (match callR i.n i.ms i.F (i.dv 2) [o, o2] η2 with
      | some (.ok (.pend (.sh (.bl b))) η3) => okR (.pend (.sh (.bl (!b)))) η3
      | _ => none)
    | none => none) else none
  | _, _ => none
section
variable {M : Md} {S : Sc} {k : Nat} {W : WX} {X : Cx} {kp : List Nat} {a b : Expr} {fa fb : FO} {pos : Pos}
theorem neO_P {P : TE → Prop} {mt : Nat → Option Fi} (ok : Cok M S (k + 1) W X) (hmt : NeOk M k mt) (ha : OkO M X W a fa) (hb : OkO M X W b fb)
    (he : ∀ ta tb, PE X a ta → PE X b tb → P (tOp (rNeO X k) ta tb)) : ∃ t, P t ∧ ∀ η σ as H Hs res Q, Rep M.G η σ as H Hs → fNeO mt fa fb η = some res → PostO M.G W σ as H Hs Q res → t σ H Q := by
  obtain ⟨P', w, K, mg, base, C⟩ := M
  have emd := ok.md
  simp only [mdOf, Md.mk.injEq, and_true] at emd
  obtain ⟨rfl, rfl, rfl, rfl, rfl⟩ := emd
  obtain ⟨ta, hta, hha⟩ := ha
  obtain ⟨tb, htb, hhb⟩ := hb.framed
  refine ⟨_, he ta tb hta htb, fun η σ as H Hs res Q hR hf hp => ?_⟩
  rcases bindR_inv hf with ⟨o, η1, e1, e2⟩ | ⟨c, p, η1, e1, rfl⟩
  · refine hha η σ as H Hs _ _ hR e1 fun v as' H' Hs' r1 l1 x1 => ?_
    rcases bindR_inv e2 with ⟨o2, η2, e3, e4⟩ | ⟨c, p, η2, e3, rfl⟩
    · refine hhb [o.p] [some v] η1 σ as' H' Hs' _ _ r1 rfl e3 fun v2 as2 H2 Hs2 r2 l2 x2 => ?_
      have r2 : Rep _ (o.p :: o2.p :: η2) (some v :: some v2 :: σ) as2 H2 Hs2 := r2
      cases c1 : o.cls η2 with
      | none =>
        simp only [c1] at e4
        cases e4
      | some q1 =>
        cases c2 : o2.cls η2 with
        | none =>
          simp only [c1, c2] at e4
          cases e4
        | some q2 =>
          obtain ⟨c, fs⟩ := q1
          obtain ⟨c', gs⟩ := q2
          simp only [c1, c2] at e4
          by_cases hc : c = c'
          · rw [if_pos hc] at e4
            subst hc
            cases em : mt c with
            | none =>
              rw [em] at e4
              cases e4
            | some i =>
              rw [em] at e4
              simp only at e4
              obtain ⟨f, h1, h2, h3, h4, cb, hle⟩ := hmt c i em
              obtain ⟨fd, ps, F, hd⟩ := cb.ex
              obtain ⟨dvs, ds, d1, d2, d3⟩ := hd _ hle
              obtain ⟨a3, r3, m3⟩ : ∃ a3, Rep _ (o.p :: η2) (some v :: σ) a3 H2 Hs2 ∧ ∀ a ∈ a3, a ∈ as2 := by
                obtain ⟨a3, m3, r3⟩ := Rep.dropMid (A := [o.p]) (τ := [some v]) r2 rfl
                exact ⟨a3, r3, m3⟩
              obtain ⟨a4, r4, m4⟩ := Rep.pop r2
              obtain ⟨a, dx, vs, rfl, ea, _⟩ := Opv.cls_ok r3 l1 c1
              obtain ⟨b, dy, us, rfl, eb, _⟩ := Opv.cls_ok r4 l2 c2
              refine ⟨a, b, _, f, fd, ps, _, dvs, ds, dx, dy, _, _, rfl, rfl, ea, eb, h1, h2, h3, h4, F, d3, d2, ?_⟩
              cases e5 : callR i.n i.ms i.F (i.dv 2) [o, o2] η2 with
              | none =>
                rw [e5] at e4
                cases e4
              | some rr =>
                rw [e5] at e4
                cases rr with
                | exc c' p' η' => cases e4
                | ok o3 η3 =>
                  obtain ⟨bb, rfl⟩ : ∃ bb, o3 = .pend (.sh (.bl bb)) := by
                    rcases o3 with y | j
                    · rcases y with dd | _ | _ | _ | _ <;> first | (simp at e4; done) | skip
                      cases dd <;> first | (simp at e4; done) | exact ⟨_, rfl⟩
                    · simp at e4
                  obtain rfl : res = .ok (.pend (.sh (.bl (!bb)))) η3 := (Option.some.inj e4).symm
                  refine callR_ok (W := fun _ _ _ _ => False) d1 (os := [o, o2]) (vs := [.ref a, .ref b]) r2 ⟨_, _, rfl, l1, _, _, rfl, l2, rfl⟩ (x1.trans x2) e5 fun v' as' H' Hs' rr lk xx => ?_
                  obtain ⟨t', as3, e6, rfl, r5, m5⟩ := blOf_inv (show blOf (.pend (.sh (.bl bb))) η3 = some (.ok bb η3) from rfl) rr
                  injection e6 with e7 e8
                  subst e7
                  exact ⟨bb, rfl, hp _ as3 H' Hs' (r5.push_sh (by simp only [RepD])) trivial (xx.less m5)⟩
          · rw [if_neg hc] at e4
            cases e4
    · refine hhb [o.p] [some v] η1 σ as' H' Hs' _ _ r1 rfl e3 fun v2 dx as2 H2 Hs2 r2 hX x2 => ?_
      exact hp v2 dx as2 H2 Hs2 r2 hX (x1.trans x2)
  · exact hha η σ as H Hs _ _ hR e1 hp
theorem ok_neO {mt : Nat → Option Fi} (ok : Cok M S (k + 1) W X) (hmt : NeOk M k mt) (ha : OkO M X W a fa) (hb : OkO M X W b fb) : OkO M X W (.Compare a [.NotEq] [b] pos) (fNeO mt fa fb) :=
  neO_P ok hmt ha hb fun _ _ h1 h2 => pe_cmpR (op_neO ok.gd ok.room) h1 h2 (nomark _)
theorem okT_neO {mt : Nat → Option Fi} (ok : Cok M S (k + 1) W X) (hmt : NeOk M k mt) (ha : OkO M X W a fa) (hb : OkO M X W b fb) : OkT M X W (.Compare a [.NotEq] [b] pos) (fBl (fNeO mt fa fb)) := by
  obtain ⟨t, ⟨h1, h2⟩, hh⟩ := neO_P (P := fun t => PE X (.Compare a [.NotEq] [b] pos) t ∧ PT X (.Compare a [.NotEq] [b] pos) (tTest t)) ok hmt ha hb fun _ _ h1 h2 => ⟨pe_cmpR (op_neO ok.gd ok.room) h1 h2 (nomark _), pt_cmpR (op_neO ok.gd ok.room) h1 h2 (nomark _)⟩
  exact okT_of ⟨t, h1, h2, hh⟩
end
end Wp
end
section
set_option Elab.async false
set_option linter.all false
set_option maxRecDepth 100000
set_option maxHeartbeats 1000000
/-! WpZ: three parallel locals; xs[::-1]. -/
namespace Wp
open PySem PySem.Spec PyProof.Rows L2
theorem escAll_len : ∀ (os : List Opv) (η : Env) (xs : List Val) (η' : Env), escAll os η = some (xs, η') → η'.length = η.length ∧ xs.length = os.length := by
  intro os
  induction os with
  | nil => intro η xs η' h; simp only [escAll, Option.some.injEq, Prod.mk.injEq] at h; rw [h.2, ← h.1]; exact ⟨rfl, rfl⟩
  | cons o os ih =>
    intro η xs η' h
    simp only [escAll] at h
    cases q1 : esc1 o η with
    | none => rw [q1] at h; cases h
    | some z =>
      obtain ⟨y', ηy⟩ := z
      rw [q1] at h
      simp only at h
      have ly : ηy.length = η.length := by
        cases o with
        | pend y0 => simp only [esc1, Option.some.injEq, Prod.mk.injEq] at q1; rw [q1.2]
        | slot i0 =>
          simp only [esc1] at q1
          cases e0 : η[i0]? with
          | none => rw [e0] at q1; cases q1
          | some u => cases u with
            | none => rw [e0] at q1; cases q1
            | some u => rw [e0] at q1; simp only [Option.some.injEq, Prod.mk.injEq] at q1; rw [← q1.2, List.length_set]
      cases q2 : escAll os ηy with
      | none => rw [q2] at h; cases h
      | some z2 =>
        obtain ⟨ys, ηz⟩ := z2
        rw [q2] at h
        simp only [Option.some.injEq, Prod.mk.injEq] at h
        obtain ⟨i1, i2⟩ := ih _ _ _ q2
        rw [← h.2, ← h.1]
        exact ⟨by rw [i1, ly], by rw [List.length_cons, List.length_cons, i2]⟩
def fPar3 (i j l : Nat) (g : FL) : FS := fun η => bindR (g η) fun os η1 => match escAll os η1 with
  | some ([x, y, z], η2) => if i < η2.length ∧ j < η2.length ∧ l < η2.length then okR .next (((η2.set i (some x)).set j (some y)).set l (some z)) else none
  | _ => none
section
variable {M : Md} {S : Sc} {k : Nat} {W : WX} {X : Cx} {kp : List Nat} {a b c : Expr} {fa fb : FO} {pos : Pos}
theorem ok_par3 {i j l : Nat} {x y z : Str} {g : FL} {px py pz pt : Pos} {kt k2 : Nat} {pt2 : Pos} (ok : Cok M S k W X) (hi : S.N[i]? = some x) (hj : S.N[j]? = some y) (hl' : S.N[l]? = some z) (hij : i ≠ j) (hil : i ≠ l) (hjl : j ≠ l) (hx : S.sc.names.lookup x = some .local) (hy : S.sc.names.lookup y = some .local) (hz : S.sc.names.lookup z = some .local)
    (ki : i ∉ kp) (kj : j ∉ kp) (kl : l ∉ kp) (ha : OkL M X W [a, b, c] g) (hw : swappedStores [.Tuple [.Name x px, .Name y py, .Name z pz] kt pt] (.Tuple [a, b, c] k2 pt2) (envS S.sc) = pure (some [x, y, z])) :
    OkS M X W kp (.Assign [.Tuple [.Name x px, .Name y py, .Name z pz] kt pt] (.Tuple [a, b, c] k2 pt2) pos) (fPar3 i j l g) := by
  obtain ⟨t, ht, hh⟩ := ha
  refine ⟨_, ps_par3 (i := i) (j := j) (l := l) ok.calm (by rw [ok.N]; exact ok.nd) (by rw [ok.N]; exact hi) (by rw [ok.N]; exact hj) (by rw [ok.N]; exact hl') hij hil hjl (by rw [ok.sc]; exact hx) (by rw [ok.sc]; exact hy) (by rw [ok.sc]; exact hz) ht (swapped_of ok hw), fun η σ as H Hs r D hR hf hp => ?_⟩
  rcases bindR_inv hf with ⟨os, η1, e1, e2⟩ | ⟨c, p, η1, e1, rfl⟩
  · refine hh η σ as H Hs _ _ hR e1 fun vs as' H' Hs' r1 l1 x1 => ?_
    cases e3 : escAll os η1 with
    | none =>
      rw [e3] at e2
      cases e2
    | some q =>
      obtain ⟨xs, η2⟩ := q
      rw [e3] at e2
      obtain ⟨as2, Hs2, r2, x2⟩ := escAll_ok (π := []) (τ := []) r1 rfl l1 e3
      obtain ⟨len1, len2⟩ := escAll_len _ _ _ _ e3
      have lv := l1.length
      obtain ⟨z1, z2, z3, rfl⟩ : ∃ z1 z2 z3, xs = [z1, z2, z3] := by
        rcases xs with _ | ⟨z1, _ | ⟨z2, _ | ⟨z3, _ | ⟨_, _⟩⟩⟩⟩ <;> first | exact ⟨_, _, _, rfl⟩ | (simp at e2; done)
      simp only at e2
      by_cases hl : i < η2.length ∧ j < η2.length ∧ l < η2.length
      · rw [if_pos hl] at e2
        obtain rfl : r = .ok .next (((η2.set i (some z1)).set j (some z2)).set l (some z3)) := (Option.some.inj e2).symm
        have lvs : vs.length = 3 := by
          simp only [List.length_cons, List.length_nil] at len2
          omega
        obtain ⟨w1, w2, w3, rfl⟩ : ∃ w1 w2 w3, vs = [w1, w2, w3] := by
          rcases vs with _ | ⟨z1, _ | ⟨z2, _ | ⟨z3, _ | ⟨_, _⟩⟩⟩⟩ <;> first | exact ⟨_, _, _, rfl⟩ | (simp at lvs; done)
        have r2' : Rep M.G (some z1 :: ([some z2, some z3] ++ η2)) (some w1 :: ([some w2, some w3] ++ σ)) as2 H' Hs2 := r2
        obtain ⟨as3, r3, m3⟩ := Rep.storeAt (π := [some z2, some z3]) (τ := [some w2, some w3]) (i := i) r2' rfl hl.1
        obtain ⟨as4, r4, m4⟩ := Rep.storeAt (π := [some z3]) (τ := [some w3]) (i := j) (show Rep M.G (some z2 :: ([some z3] ++ η2.set i (some z1))) (some w2 :: ([some w3] ++ σ.set i (some w1))) as3 H' Hs2 from r3) rfl (by rw [List.length_set]; exact hl.2.1)
        obtain ⟨as5, r5, m5⟩ := Rep.store (i := l) (x := z3) (v := w3) (show Rep M.G (some z3 :: (η2.set i (some z1)).set j (some z2)) (some w3 :: (σ.set i (some w1)).set j (some w2)) as4 H' Hs2 from r4) (by rw [List.length_set, List.length_set]; exact hl.2.2)
        refine ⟨w1, w2, w3, rfl, ?_⟩
        exact hp _ as5 H' Hs2 r5 ((x1.trans x2).less fun a ha => m3 a (m4 a (m5 a ha))) (((Kept.set ki).trans (Kept.set kj)).trans (Kept.set kl))
      · rw [if_neg hl] at e2
        cases e2
  · exact hh η σ as H Hs _ _ hR e1 (PostX.toS hp)
/-! xs[::-1], xs a list -/
def gRev : D → Option Val
  | .lst xs => some (.ol (xs.reverse.map .sh))
  | _ => none
def rRev (K : PySem.W.Frag) : V → Hp → VK → Prop := fun x H Q => ∃ a xs, x = .ref a ∧ SqL K H a xs ∧ ∀ p, H p = none → Q (.ref p) (upd H p (.lst xs.reverse))
theorem RepDs.reverse {G : Gc} {H : Hp} : ∀ {ds : List D} {vs : List V}, RepDs G H ds vs → RepDs G H ds.reverse vs.reverse
  | [], vs, h => by
    rw [RepDs.nil_iff] at h
    subst h
    simp only [List.reverse_nil, RepDs]
  | d :: ds, vs, h => by
    obtain ⟨v, ws, rfl, p, t⟩ := h.uncons
    rw [List.reverse_cons, List.reverse_cons]
    exact RepDs.append (RepDs.reverse t) (RepDs.cons p (by simp only [RepDs]))
theorem ok_rev {k' : Nat} {p1 p2 p3 : Pos} (ok : Cok M S k W X) (ha : OkO M X W a fa) : OkO M X W (.Subscript a (.Slice none none (some (.UnaryOp .USub (.Constant (.int 1) k' p1) p2)) p3) pos) (f1 fa (Wp.p1 gRev)) := by
  refine ok1 (r := fun x H Q => rRev M.G.K x H Q) ha (prim1 fun d x hx v H Hs Q s t q => ?_) fun _ h1 => by
    have e : M.G.K = X.K := ok.K.symm
    rw [e]
    exact pe_revL h1
  unfold gRev at hx
  split at hx
  · obtain rfl := Option.some.inj hx
    obtain ⟨a, vs, rfl, q1, r1⟩ := t
    exact ⟨a, vs, rfl, q1, fun p np => q.lst r1.reverse p np⟩
  · cases hx
end
end Wp
end
section
set_option Elab.async false
set_option linter.all false
set_option maxRecDepth 100000
set_option maxHeartbeats 1000000
/-! WqA: == of two lists whose items have an own ==. -/
namespace Wp
open PySem PySem.Spec PyProof.Rows L2 PySem.SeqAt
open AutoSeq1 (wpAny_loadPart')
open MeetsSeq MeetsSeq2 MeetsSeq3 SeqRoads2
section
variable {prog : Program} {w : World} {A : Around} {R : Result → Shared → Prop} {E : Value → Shared → Prop} {s : Shared}
/-- at each turn: two lists of N items, and the i-th two are equal -/
def LI (prog : Program) (w : World) (A : Around) (E : Value → Shared → Prop) (l b : Addr) (N : Nat) (J : Nat → Shared → Prop) : Prop :=
  ∀ i s, J i s → ∃ xs ys : Array Value, s.heap.IsList l xs ∧ s.heap.IsList b ys ∧ xs.size = N ∧ ys.size = N ∧ ∀ (h1 : i < xs.size) (h2 : i < ys.size), wpAny (model prog w) A.in1 (eqBool xs[i] ys[i]) (fun r s' => r = true ∧ J (i + 1) s') E s
theorem li_loop (l b : Addr) (N : Nat) (J : Nat → Shared → Prop) (hl : LI prog w A (fun e s' => R (.error e) s') l b N J) (fin : ∀ s, J N s → R (.ok (.ret (.bool true))) s) (k : Nat) :
    ∀ i : Nat, N - i = k → i ≤ N → ∀ s, J i s → wpAny (model prog w) A.in1 (Builtin.«list.__eq__.loop» ⟨[.ref l, .ref b, rawInt i, rawInt 2], []⟩) (GQ.FinOf prog w A R) (fun e s' => R (.error e) s') s := by
  induction k with
  | zero =>
    intro i hk hi s hJ
    obtain ⟨xs, ys, q1, q2, z1, z2, _⟩ := hl _ _ hJ
    obtain ⟨⟨c1, d1, t1, sl1⟩, o1, e1, n1, f1⟩ := q1
    obtain ⟨⟨c2, d2, t2, sl2⟩, o2, e2, n2, f2⟩ := q2
    simp only at e1 f1 e2 f2; subst e1; subst f1; subst e2; subst f2
    have hR : R (.ok (.ret (.bool true))) s := fin s (by rw [show N = i by omega]; exact hJ)
    obtain ⟨hp, g, d, tk, os⟩ := s
    wp_walk using wpAny_loadPart' o1, wpAny_loadPart' o2
    have g1 : xs[((i : Nat) : Int).toNat]? = none := by simp; omega
    have g2 : ys[((i : Nat) : Int).toNat]? = none := by simp; omega
    rw [g1, g2]; (wp_walk using wpAny_loadPart' o1, wpAny_loadPart' o2)
    show R (.ok (.ret (.bool (xs.size == ys.size)))) _
    rw [z1, z2]; simpa using hR
  | succ k ih =>
    intro i hk hi s hJ
    obtain ⟨xs, ys, q1, q2, z1, z2, turn⟩ := hl _ _ hJ
    have b1 : i < xs.size := by omega
    have b2 : i < ys.size := by omega
    have tn := turn b1 b2
    obtain ⟨⟨c1, d1, t1, sl1⟩, o1, e1, n1, f1⟩ := q1
    obtain ⟨⟨c2, d2, t2, sl2⟩, o2, e2, n2, f2⟩ := q2
    simp only at e1 f1 e2 f2; subst e1; subst f1; subst e2; subst f2
    obtain ⟨hp, g, d, tk, os⟩ := s
    wp_walk using wpAny_loadPart' o1, wpAny_loadPart' o2
    have g1 : xs[((i : Nat) : Int).toNat]? = some xs[i] := by simp [b1]
    have g2 : ys[((i : Nat) : Int).toNat]? = some ys[i] := by simp [b2]
    have nx : ((i : Int) + 1) = ((i + 1 : Nat) : Int) := by omega
    rw [g1, g2]; refine wpAny_bind (wpAny_mono tn (fun r s2 q => ?_) fun _ _ x => x)
    obtain ⟨hr, q⟩ := q
    subst hr
    have rest := ih (i + 1) (by omega) (by omega) s2 q
    obtain ⟨hp2, g2', d2', tk2, os2⟩ := s2
    wp_walk
    rw [nx]
    exact ⟨plainId_quiet plain_eq_loop _, codeAny_builtin entry_eq_loop (by rw [Around.under_plainId plain_eq_loop _]; exact rest)⟩
theorem li_eq (l b : Addr) (N : Nat) (J : Nat → Shared → Prop) (hl : LI prog w A (fun e s' => R (.error e) s') l b N J) (fin : ∀ s, J N s → R (.ok (.ret (.bool true))) s) (hJ : J 0 s) :
    wpAny (model prog w) A.in1 (Builtin.«list.__eq__» ⟨[.ref l, .ref b], []⟩) (GQ.FinOf prog w A R) (fun e s' => R (.error e) s') s := by
  obtain ⟨xs, ys, q1, q2, z1, z2, _⟩ := hl _ _ hJ
  have rest := li_loop (A := A) (R := R) l b N J hl fin _ 0 rfl (Nat.zero_le _) s hJ
  obtain ⟨⟨c1, d1, t1, sl1⟩, o1, e1, n1, f1⟩ := q1
  obtain ⟨⟨c2, d2, t2, sl2⟩, o2, e2, n2, f2⟩ := q2
  simp only at e1 f1 e2 f2; subst e1; subst f1; subst e2; subst f2
  obtain ⟨hp, g, d, tk, os⟩ := s
  have sub := AutoSeq1.sub_list_list
  have same : ¬ (xs.size != ys.size) = true := by simp [z1, z2]
  wp_walk using wpAny_loadPart' o1, wpAny_loadPart' o2
  exact ⟨plainId_quiet plain_eq_loop _, codeAny_builtin entry_eq_loop (by rw [Around.under_plainId plain_eq_loop _]; exact rest)⟩
theorem li_rc {l b : Addr} {N : Nat} {Q : Value → Shared → Prop} (hu : A.units < cLine) (J : Nat → Shared → Prop) (hl : LI prog w A E l b N J) (fin : ∀ s, J N s → Q (.bool true) s) (hJ : J 0 s) : wpAny (model prog w) A (richCompare .Eq (.ref l) (.ref b)) Q E s := by
  obtain ⟨xs, ys, ⟨o1, h1, c1, _⟩, ⟨o2, h2, c2, _⟩, _, _, _⟩ := hl _ _ hJ
  refine wpAny_richCompare_same_room (op := .Eq) ⟨o1, h1, c1⟩ ⟨o2, h2, c2⟩ F.slot_list_eq (GQ.call_here F.slot_list_eq ⟨o1, h1, c1⟩ F.entry_list_eq (F.args_list_eq_2 _ _) ?_) hu
  exact li_eq (R := wants (fun v s' => v ≠ .notImplemented ∧ Q v s') E) l b N J hl (fun s' q => ⟨(fun x => nomatch x), fin s' q⟩) hJ
end
end Wp
end
section
set_option Elab.async false
set_option linter.all false
set_option maxRecDepth 100000
set_option maxHeartbeats 1000000
/-! WqB: == of two lists of objects with an own ==, where it answers True. -/
namespace Wp
open PySem PySem.Spec PyProof.Rows L2
def eqTrue : Option (Res Val) → Bool
  | some (.ok (.sh (.bl true)) _) => true
  | _ => false
theorem eqTrue_inv {r : Option (Res Val)} (h : eqTrue r = true) : ∃ θ, r = some (.ok (.sh (.bl true)) θ) := by
  unfold eqTrue at h
  split at h
  · exact ⟨_, rfl⟩
  · cases h
def allEq (mt : Nat → Option Fi) : List D → List D → Bool
  | [], [] => true
  | .obj c f1 v1 :: ds, .obj c2 f2 v2 :: es => decide (c = c2) && (match mt c with
    | some i => decide (i.n = 2) && i.df.isEmpty && eqTrue (i.F [.sh (.obj c f1 v1), .sh (.obj c2 f2 v2)])
    | none => false) && allEq mt ds es
  | _, _ => false
def gEqLO (mt : Nat → Option Fi) : D → D → Option Val
  | .lst xs, .lst ys => if allEq mt xs ys = true then some (.sh (.bl true)) else none
  | _, _ => none
def PR (X : Cx) (k : Nat) (x y : V) (H : Hp) : Prop := ∃ a b C f fd ps sp dx dy fs gs, x = .ref a ∧ y = .ref b ∧ H a = some (.ins C dx fs) ∧ H b = some (.ins C dy gs) ∧ PySem.W.findIn X.K (.ref C) "__eq__" = some (some (.ref f)) ∧ PySem.W.isFn X.K (.ref f) = true ∧
  FnG X.prog X.w X.K X.mg X.base k f fd ps sp ∧ L2.Binds X.K fd ps [] ∧ ∀ H1, L2.Ext H H1 → sp [.ref a, .ref b] H1 (fun v H' => v = .bl true ∧ L2.Ext H1 H') (fun _ _ _ => False)
def rEqLO (X : Cx) (k : Nat) : R2 := fun x y H Q => (∃ a b xs ys, x = .ref a ∧ y = .ref b ∧ SqL X.K H a xs ∧ SqL X.K H b ys ∧ xs.length = ys.length ∧ ∀ (i : Nat) x y, xs[i]? = some x → ys[i]? = some y → PR X k x y H) ∧ ∀ H', L2.Ext H H' → Q (.bl true) H'
theorem vals_at {xs : List V} {its : List Value} (r : Vals xs its) {i : Nat} (h : i < its.toArray.size) : ∃ x, xs[i]? = some x ∧ RelV x its.toArray[i] := by
  have h1 : i < xs.length := by rw [r.length]; simpa using h
  obtain ⟨u, hu, ru⟩ := r.get (List.getElem?_eq_getElem h1)
  refine ⟨xs[i], List.getElem?_eq_getElem h1, ?_⟩
  have g : its[i]? = some its.toArray[i] := by
    have h2 : i < its.length := by simpa using h
    rw [List.getElem?_eq_getElem h2] <;> simp
  rw [g] at hu
  rw [Option.some.inj hu]
  exact ru
theorem op_eqLO {X : Cx} {k : Nat} (gd : X.A.guards = some []) (hr : Room (k + 1) X.A) : OpR X (compareOp .Eq) (rEqLO X k) := by
  intro pins s σ H x y v u Q I rx ry h
  obtain ⟨⟨a, b, xs, ys, rfl, rfl, hx, hy, hlen, hp⟩, hq⟩ := h
  cases rx
  cases ry
  show wpAny (model X.prog X.w) X.A (richCompare .Eq (.ref a) (.ref b)) (EP X pins σ Q) X.xe s
  refine li_rc (N := xs.length) hr.units0 (fun _ s' => LoopI X pins σ H s') (fun i s' hJ => ?_) (fun s' ⟨H', I', e'⟩ => ⟨.bl true, H', I', rfl, hq H' e'⟩) ⟨H, I, L2.Ext.rfl'⟩
  obtain ⟨H1, I1, e1⟩ := id hJ
  obtain ⟨its, r1, p1, _⟩ := I1.list (SqL.ext hx e1)
  obtain ⟨its2, r2, p2, _⟩ := I1.list (SqL.ext hy e1)
  refine ⟨its.toArray, its2.toArray, p1.isList, p2.isList, by rw [List.size_toArray, ← r1.length], by rw [List.size_toArray, ← r2.length, hlen], fun h1 h2 => ?_⟩
  obtain ⟨x1, g1, w1⟩ := vals_at r1 h1
  obtain ⟨y1, g2, w2⟩ := vals_at r2 h2
  obtain ⟨oa, ob, C, f, fd, ps, sp, dx, dy, fs, gs, rfl, rfl, ha, hb, hs, hf, F, hbi, hsp⟩ := hp i x1 y1 g1 g2
  generalize its.toArray[i] = u1 at *
  generalize its2.toArray[i] = u2 at *
  cases w1
  cases w2
  by_cases same : oa = ob
  · subst same
    exact SeqAt.EqAt.same (A := X.A.in1) (s := s') (.ref oa) X.prog X.w X.xe _ ⟨rfl, H1, I1, e1⟩
  · refine GQ.eqBool_refG same ?_
    obtain ⟨mA, J, _⟩ := ins_get I1.hok (e1 _ _ ha)
    obtain ⟨mB, J', _⟩ := ins_get I1.hok (e1 _ _ hb)
    obtain ⟨od, J, _⟩ := J.look
    obtain ⟨od', J', _⟩ := J'.look
    obtain ⟨m, hF⟩ := I1.fr
    refine PySem.W.cmp_K (op := .Eq) (tb := .ref C) hr.in1.units0 hF I1.ok.mod.kin J J'.type (by simp [PySem.W.notFirst]) hs hf ?_
    have sp1 := hsp H1 e1
    have e0 : Env0 X.prog X.w X.K X.mg X.base X.A.in1 X.stack s' H1 := by
      have e := I1.env0
      exact ⟨e.frames, e.mod, e.bs, e.bsz, e.funs, e.frf, e.hok, e.bare⟩
    have rr : Vals [V.ref oa, V.ref ob] [Value.ref oa, Value.ref ob] := .cons rfl (.cons rfl .nil)
    have hl : ([Value.ref oa, Value.ref ob] ++ []).length = ps.length := by
      have := F.len _ _ _ _ sp1
      simpa using this
    have run := F.run X.A.in1 X.stack s' H1 ⟨[.ref oa, .ref ob], []⟩ _ _ _ _ gd hr.in1 e0 (by simpa using hbi s' [.ref oa, .ref ob] I1.kIn hl) rr sp1
    refine wpAny_call (codeAny_mono run fun res s2 hres => ?_)
    rcases res with er | fl
    · obtain ⟨_, _, _, _, _, _, _, _, _, _, _, _, z⟩ := hres
      exact z.elim
    · cases fl with
      | ret w =>
        obtain ⟨z, H', I', rz, ez, ex⟩ := I1.after hres
        subst ez
        cases rz
        exact ⟨true, rfl, rfl, H', I', e1.trans ex⟩
      | _ => exact hres.elim
theorem le_ext {Hs H H1 : Hp} (s : Le Hs H) (e : L2.Ext H H1) : Le Hs H1 := fun b o h => (s b o h).elim (fun h => .inl (e _ _ h)) fun ⟨ob, kvs, h1, h2⟩ => .inr ⟨ob, kvs, h1, e _ _ h2⟩
section
variable {M : Md} {S : Sc} {k : Nat} {W : WX} {X : Cx} {kp : List Nat} {a b : Expr} {fa fb : FO} {pos : Pos}
theorem allEq_PR {mt : Nat → Option Fi} (hX : mdOf X M.C = M) (hmt : EqOk M k mt) {H Hs : Hp} (hle : Le Hs H) : ∀ (ds es : List D) (vs us : List V), allEq mt ds es = true → RepDs M.G Hs ds vs → RepDs M.G Hs es us →
    vs.length = us.length ∧ ∀ (i : Nat) x y, vs[i]? = some x → us[i]? = some y → PR X k x y H
  | [], [], vs, us, _, r1, r2 => by
    rw [RepDs.nil_iff] at r1 r2
    subst r1
    subst r2
    exact ⟨rfl, fun i x y h _ => by simp at h⟩
  | .obj c f1 v1 :: ds, .obj c2 f2 v2 :: es, vs, us, h, r1, r2 => by
    obtain ⟨v, ws, rfl, p1, t1⟩ := r1.uncons
    obtain ⟨u, zs, rfl, p2, t2⟩ := r2.uncons
    simp only [allEq, Bool.and_eq_true, decide_eq_true_eq] at h
    obtain ⟨⟨rfl, h2⟩, h3⟩ := h
    obtain ⟨q1, q2⟩ := allEq_PR hX hmt hle ds es ws zs h3 t1 t2
    refine ⟨by simp [q1], fun i x y e1 e2 => ?_⟩
    cases i with
    | succ i => exact q2 i x y (by simpa using e1) (by simpa using e2)
    | zero =>
      obtain rfl : v = x := by simpa using e1
      obtain rfl : u = y := by simpa using e2
      cases em : mt c with
      | none => rw [em] at h2; cases h2
      | some i =>
        rw [em] at h2
        simp only [Bool.and_eq_true, decide_eq_true_eq] at h2
        obtain ⟨⟨n2, d0⟩, hF⟩ := h2
        obtain ⟨θ, hF⟩ := eqTrue_inv hF
        have d0 : i.df = [] := by simpa using d0
        obtain ⟨f, k1, k2, cb, hle2⟩ := hmt c i em
        obtain ⟨fd, ps, G, hd⟩ := cb.ex
        obtain ⟨dvs, dss, z1, z2, z3⟩ := hd _ hle2
        rw [d0] at z1
        have z1 : dvs = [] := by simpa [ConstD] using z1
        subst z1
        cases z2
        obtain ⟨oa, dx, fs, rfl, ha, _, _⟩ := (show ∃ a dx vs, v = .ref a ∧ Hs a = some (.ins (M.G.C c) dx (f1.zip vs)) ∧ f1.length = vs.length ∧ RepDs M.G Hs v1 vs by simpa only [RepD] using p1)
        obtain ⟨ob, dy, gs, rfl, hb, _, _⟩ := (show ∃ a dx vs, u = .ref a ∧ Hs a = some (.ins (M.G.C c) dx (f2.zip vs)) ∧ f2.length = vs.length ∧ RepDs M.G Hs v2 vs by simpa only [RepD] using p2)
        obtain ⟨P', w', K', mg', base', C'⟩ := M
        simp only [mdOf, Md.mk.injEq, and_true] at hX
        obtain ⟨rfl, rfl, rfl, rfl, rfl⟩ := hX
        refine ⟨oa, ob, _, f, fd, ps, _, dx, dy, _, _, rfl, rfl, hle.keep ha (fun _ z => nomatch z), hle.keep hb (fun _ z => nomatch z), k1, k2, G, z3, fun H1 e1 => ?_⟩
        refine ⟨by rw [n2]; rfl, [.sh (.obj c f1 v1), .sh (.obj c f2 v2)], [], Hs, _, ⟨le_ext hle e1, ?_, List.nodup_nil, fun _ z => nomatch z⟩, hF, fun v' as' H' Hs' r x => ⟨?_, fun b o e => x.keep b o e (by simp)⟩⟩
        · exact ⟨.ref oa, _, [], [], rfl, rfl, RepV.sh_iff.mpr ⟨rfl, p1⟩, ⟨.ref ob, [], [], [], rfl, rfl, RepV.sh_iff.mpr ⟨rfl, p2⟩, rfl, rfl⟩⟩
        · obtain ⟨u', σ, a1, a2, e3, rfl, rv, _⟩ := r.env
          obtain ⟨e4, rfl⟩ := List.cons.inj e3
          obtain rfl := Option.some.inj e4
          obtain ⟨rfl, rd⟩ := RepV.sh_iff.mp rv
          simpa only [RepD] using rd
  | [], _ :: _, _, _, h, _, _ => by simp [allEq] at h
  | _ :: _, [], _, _, h, _, _ => by simp [allEq] at h
  | .non :: _, _ :: _, _, _, h, _, _ => by simp [allEq] at h
  | .bl _ :: _, _ :: _, _, _, h, _, _ => by simp [allEq] at h
  | .int _ :: _, _ :: _, _, _, h, _, _ => by simp [allEq] at h
  | .str _ :: _, _ :: _, _, _, h, _, _ => by simp [allEq] at h
  | .tup _ :: _, _ :: _, _, _, h, _, _ => by simp [allEq] at h
  | .lst _ :: _, _ :: _, _, _, h, _, _ => by simp [allEq] at h
  | .dict _ _ :: _, _ :: _, _, _, h, _, _ => by simp [allEq] at h
  | .obj _ _ _ :: _, .non :: _, _, _, h, _, _ => by simp [allEq] at h
  | .obj _ _ _ :: _, .bl _ :: _, _, _, h, _, _ => by simp [allEq] at h
  | .obj _ _ _ :: _, .int _ :: _, _, _, h, _, _ => by simp [allEq] at h
  | .obj _ _ _ :: _, .str _ :: _, _, _, h, _, _ => by simp [allEq] at h
  | .obj _ _ _ :: _, .tup _ :: _, _, _, h, _, _ => by simp [allEq] at h
  | .obj _ _ _ :: _, .lst _ :: _, _, _, h, _, _ => by simp [allEq] at h
  | .obj _ _ _ :: _, .dict _ _ :: _, _, _, h, _, _ => by simp [allEq] at h
theorem p_eqLO {mt : Nat → Option Fi} (hX : mdOf X M.C = M) (hmt : EqOk M k mt) : P2 M.G (rEqLO X k) (gEqLO mt) := fun d e x hx v u H Hs Q s t1 t2 q => by
  unfold gEqLO at hx
  split at hx
  · split at hx
    · rename_i xs ys h
      obtain rfl := Option.some.inj hx
      obtain ⟨a, vs, rfl, q1, r1⟩ := t1
      obtain ⟨b, us, rfl, q2, r2⟩ := t2
      have hK : M.G.K = X.K := by rw [← hX]; rfl
      obtain ⟨z1, z2⟩ := allEq_PR hX hmt s xs ys vs us h r1 r2
      refine ⟨⟨a, b, vs, us, rfl, rfl, by rw [← hK]; exact q1, by rw [← hK]; exact q2, z1, z2⟩, fun H' e' => ?_⟩
      exact q (.bl true) [] H' e' (RepV.sh_iff.mpr ⟨rfl, by simp only [RepD]⟩) List.nodup_nil (fun _ z => nomatch z)
    · cases hx
  · cases hx
theorem ok_eqLO {mt : Nat → Option Fi} (ok : Cok M S (k + 1) W X) (hmt : EqOk M k mt) (ha : OkO M X W a fa) (hb : OkO M X W b fb) : OkO M X W (.Compare a [.Eq] [b] pos) (f2 fa fb (p2 (gEqLO mt))) :=
  ok_cmp (op_eqLO ok.gd ok.room) (nomark _) (p_eqLO ok.md hmt) ha hb
theorem okT_eqLO {mt : Nat → Option Fi} (ok : Cok M S (k + 1) W X) (hmt : EqOk M k mt) (ha : OkO M X W a fa) (hb : OkO M X W b fb) : OkT M X W (.Compare a [.Eq] [b] pos) (fBl (f2 fa fb (p2 (gEqLO mt)))) :=
  okT_cmp (op_eqLO ok.gd ok.room) (nomark _) (p_eqLO ok.md hmt) ha hb
end
end Wp
end
section
set_option Elab.async false
set_option linter.all false
set_option maxRecDepth 100000
/-! WqC: properties in the head's facts. -/
namespace Wp
open PySem PySem.Spec PyProof.Rows L2
/-- where a property's getter stands -/
def pAd (K : PySem.W.Frag) (x f : Str) : Addr := match PySem.W.recIn K (He.ma K (He.ga K x) f) "property" with
  | some (.ref g :: _) => g
  | _ => 0
def propB (K : PySem.W.Frag) (x f : Str) : Bool := He.eqO (PySem.W.findIn K (.ref (He.ga K x)) f) (some (some (.ref (He.ma K (He.ga K x) f)))) && (He.eqO (PySem.W.specialIn K (.ref (He.ma K (He.ga K x) f)) "__get__") (some (some (.builtin "property.__get__"))) &&
  (decide (PySem.W.takesIn K (.ref (He.ma K (He.ga K x) f)) = some true) && (match PySem.W.recIn K (He.ma K (He.ga K x) f) "property" with
    | some (.ref _ :: _) => true
    | _ => false)))
theorem propB_ok {K : PySem.W.Frag} {x f : Str} (h : propB K x f = true) : PropOf K (He.ga K x) f (He.ma K (He.ga K x) f) (pAd K x f) := by
  obtain ⟨h1, h⟩ := He.ba h
  obtain ⟨h2, h⟩ := He.ba h
  obtain ⟨h3, h4⟩ := He.ba h
  refine ⟨He.eqO_ok h1, He.eqO_ok h2, of_decide_eq_true h3, ?_⟩
  unfold pAd
  split at h4
  · rename_i g rest e
    rw [e]
    exact ⟨rest, rfl⟩
  · cases h4
def fnAt (K : PySem.W.Frag) (a : Addr) : He.FnW := match K.lookup a with
  | some ⟨_, _, .func fd, _⟩ => some (fd.name, fd.qualname, fd.params, fd.body, fd.scope, fd.globals, fd.closure, fd.builtins)
  | _ => none
def getB (K : PySem.W.Frag) (a : Addr) (q : Str) : Bool := PySem.W.keepIn K (.ref a) && (match K.lookup a with
  | some ⟨_, _, .func fd, _⟩ => PySem.W.codeIn K fd.code q && (He.dflB K fd.defaults [] && He.kwdB K fd.kwdefaults [])
  | _ => false)
theorem getB_ok {K : PySem.W.Frag} {a : Addr} {d : He.DefD} (e : fnAt K a = d.val) (c : getB K a d.qual = true) : ∃ fd, FunD K d.name d.qual d.params d.body d.scope [] [] a fd := by
  obtain ⟨kp, c2⟩ := He.ba c
  unfold fnAt at e
  cases q : K.lookup a with
  | none => rw [q] at c2; cases c2
  | some o =>
    obtain ⟨oc, od, dt, osl⟩ := o
    rw [q] at c2 e
    cases dt with
    | func fd =>
      obtain ⟨n1, n2, n3, n4, n5, n6, n7, n8, n9, n10, n11, n12, n13, n14, n15⟩ := fd
      have e2 : (some (n1, n2, n3, n4, n5, n6, n7, n15) : He.FnW) = some (d.name, d.qual, d.params, .stmts d.body, d.scope, mainGlobals, [], builtinsNs) := e
      injection e2 with e2
      simp only [Prod.mk.injEq] at e2
      obtain ⟨g1, g2, g3, g4, g5, g6, g7, g8⟩ := e2
      subst g1 g2 g3 g4 g5 g6 g7 g8
      obtain ⟨k1, k2⟩ := He.ba (show (PySem.W.codeIn K n13 d.qual && (He.dflB K n8 [] && He.kwdB K n9 [])) = true from c2)
      obtain ⟨k3, k4⟩ := He.ba k2
      exact ⟨_, ⟨oc, od, n8, n9, n10, n11, n12, n13, n14, osl, rfl, q, k1, He.dflB_ok k3, He.kwdB_ok k4⟩, kp⟩
    | _ => cases e
/-- the facts, one more test, and the getters -/
abbrev AlP : Type := (He.AlD × Bool) × List He.FnW
def obsP (n : Nat) (fa : List He.Fa) (fn : List He.DefD) (ex : PySem.W.Frag → Bool) (pl : List (Str × Str × He.DefD)) (g : Addr → Option Obj) : AlP := (obsK n fa fn ex g, pl.map fun p => fnAt (He.frG g (He.asD g n)) (pAd (He.frG g (He.asD g n)) p.1 p.2.1))
def valP (fn : List He.DefD) (pl : List (Str × Str × He.DefD)) : AlP := ((He.valD fn, true), pl.map fun p => p.2.2.val)
def hookP (n : Nat) (fa : List He.Fa) (fn : List He.DefD) (ex : PySem.W.Frag → Bool) (pl : List (Str × Str × He.DefD)) : PySem.W.Hook where
  α := AlP
  obs := fun s => obsP n fa fn ex pl s.heap.get?
  val := fun _ => valP fn pl
  says := fun _ h => ∃ K : PySem.W.Frag, K.In h ∧ He.SaysD fa fn K ∧ ex K = true ∧ (pl.map fun p => fnAt K (pAd K p.1 p.2.1)) = pl.map fun p => p.2.2.val
  of := fun _ _ e => ⟨_, He.frG_in, congrArg (fun z : AlP => z.1.1) e, congrArg (fun z : AlP => z.1.2) e, congrArg (fun z : AlP => z.2) e⟩
  keeps := fun _ _ _ ⟨K, hK, c, x, y⟩ k => ⟨K, PySem.W.Frag.In.keeps hK k, c, x, y⟩
theorem obsP_eq {n : Nat} {fa : List He.Fa} {fn : List He.DefD} {ex : PySem.W.Frag → Bool} {pl : List (Str × Str × He.DefD)} {g : Addr → Option Obj} {s : Shared} (h : ∀ a, g a = s.heap.get? a) : obsP n fa fn ex pl g = (hookP n fa fn ex pl).obs s := by
  have e : g = s.heap.get? := funext h
  rw [e] <;> rfl
theorem pl_at {pl : List (Str × Str × He.DefD)} {K : PySem.W.Frag} (h : (pl.map fun p => fnAt K (pAd K p.1 p.2.1)) = pl.map fun p => p.2.2.val) (i : Nat) {p : Str × Str × He.DefD} (e : pl[i]? = some p) : fnAt K (pAd K p.1 p.2.1) = p.2.2.val := by
  have e2 : (pl.map fun p => fnAt K (pAd K p.1 p.2.1))[i]? = (pl.map fun p => p.2.2.val)[i]? := by rw [h]
  rw [List.getElem?_map, List.getElem?_map, e] at e2
  exact Option.some.inj e2
/-- != by a class's own == -/
def neB (K : PySem.W.Frag) (x : Str) : Bool := He.eqO (PySem.W.findIn K (.ref (He.ga K x)) "__ne__") (some (some (.builtin "object.__ne__"))) && decide (PySem.W.mroIn K (He.ga K x) (.type "object") = some true)
theorem neB_ok {K : PySem.W.Frag} {x : Str} (h : neB K x = true) : PySem.W.findIn K (.ref (He.ga K x)) "__ne__" = some (some (.builtin "object.__ne__")) ∧ PySem.W.mroIn K (He.ga K x) (.type "object") = some true := by
  obtain ⟨h1, h2⟩ := He.ba h
  exact ⟨He.eqO_ok h1, of_decide_eq_true h2⟩
end Wp
end
section
set_option Elab.async false
set_option linter.all false
set_option maxRecDepth 100000
/-! WqD: defs with defaults. -/
namespace Wp
open PySem PySem.Spec PyProof.Rows L2
theorem ConstD.drop {G : Gc} : ∀ {ds : List D} {vs : List V} (j : Nat), ConstD G ds vs → ConstD G (ds.drop j) (vs.drop j)
  | ds, vs, 0, h => h
  | [], vs, j + 1, h => by
    obtain rfl : vs = [] := h
    rfl
  | d :: ds, vs, j + 1, h => by
    obtain ⟨v, ws, rfl, _, t⟩ := h
    exact ConstD.drop j t
theorem Cb.ofD {M : Md} {k : Nat} {f : Addr} {fd : FuncData} {ps : List Str} {F : FF} {n : Nat} {df : List D} {dvs : List V} (G : FnG M.prog M.w M.K M.mg M.base k f fd ps (spD M n F)) (hc : ConstD M.G df dvs) (hb : ∀ j ≤ df.length, ∃ ds, Vals (dvs.drop j) ds ∧ L2.Binds M.K fd ps ds) : Cb M k f F n df :=
  ⟨fd, ps, G, fun j hj => let ⟨ds, h1, h2⟩ := hb j hj; ⟨dvs.drop j, ds, hc.drop j, h1, h2⟩⟩
end Wp
end
section
set_option Elab.async false
set_option linter.all false
set_option maxRecDepth 100000
set_option maxHeartbeats 1000000
/-! WqE: sorted(set(ints)) of long lists with few different ones. -/
namespace Wp
open PySem PySem.Spec PyProof.Rows L2
theorem swaps_cell {M : Md} {S : Sc} {k : Nat} {W : WX} {X : Cx} (ok : Cok M S k W X) {elt : Expr} {gens : List Comprehension} {scope : Scope} {pos py : Pos} {y : Str} {l : Nat} (h : S.sc.names.lookup y = some .cell) : swapsWith (.ListComp elt gens scope pos) (some (.Name y py)) l X.env = pure false := by
  have hk : X.env.kindOf y = some .cell := by
    show X.env.scope.names.lookup y = _
    rw [ok.sc]
    exact h
  unfold swapsWith
  simp only [hk]
  have e : ((some NameKind.cell : Option NameKind) == some .local) = false := by decide
  rw [e, Bool.and_false, Bool.false_and, Bool.false_and]
theorem setR_len {w : World} {h : Heap} {a : Addr} {ns : List Int} {c : Nat} (R : SetR w h a (fun j => decide (j ∈ ns)) c) : c = (sortU ns).length := by
  obtain ⟨o, es, ep, t, ho, hex, hd, hg, nd, hS, hb, hf, hsz, _⟩ := R
  have nd2 : (sortU ns).Nodup := (sortU_sorted ns).imp fun h => by omega
  have p : (es.toList.map L2.keyOf).Perm (sortU ns) := (List.perm_ext_iff_of_nodup nd nd2).mpr fun k => by
    rw [← hS k, sortU_mem]
    simp
  have := p.length_eq
  rw [List.length_map] at this
  rw [← hsz, ← this]
  simp
def rSetLJ (K : PySem.W.Frag) (w : World) : List V → Hp → VK → Prop := fun xs H Q => ∃ (a : Addr) (ns : List Int), xs = [.ref a] ∧ SqL K H a (ns.map V.int) ∧ ns.length + 1 < scanBound ∧ ∀ p, H p = none → Q (.ref p) (upd H p (SetO w p (fun j => decide (j ∈ ns)) (sortU ns).length))
section
variable {M : Md} {S : Sc} {k : Nat} {W : WX} {X : Cx} {a b c e : Expr} {es : List Expr} {fa fb fc : FO} {g : FL} {pos p : Pos} {x : Str}
theorem cr_setLJ (hc : X.calm = true) : CallR X (.type "set") (rSetLJ X.K X.w) := by
  intro pins s σ H xs us Q I r h
  obtain ⟨a, ns, rfl, hs, few, q⟩ := h
  obtain ⟨its, rv, hl, _⟩ := I.list hs
  rw [Vals.ref1 r]
  refine set_of_ints ns (I.ok.hd hc) hl.isList (by simpa using rv.ints) few fun g tk c R le kp => ?_
  have hlen := setR_len R
  subst hlen
  refine ⟨.ref _, _, I.laid (t' := tk) kp (Nat.le_refl _) (setO_new R), rfl, q _ (I.hok.fresh (Nat.le_refl _))⟩
def gSortedSet2 : D → Option Val
  | .lst xs => (intsOf xs).bind fun ns => if ns.length < 4000 ∧ (sortU ns).length < 64 then some (.ol ((sortU ns).map fun n => .sh (.int n))) else none
  | _ => none
theorem ok_sortedSet2 {y : Str} {p2 pos2 : Pos} (ok : Cok M S k W X) (B : Bi M S x (.builtin "sorted")) (B2 : Bi M S y (.type "set")) (ha : OkO M X W a fa) (hs : noStar a = true) :
    OkO M X W (.Call (.Name x p) [.Call (.Name y p2) [a] [] pos2] [] pos) (f1 fa (p1 gSortedSet2)) := by
  refine ok1 (r := fun v H Q => rSetLJ M.K X.w [v] H fun u H1 => rSortedSet X.w [u] H1 Q) ha (prim1 fun d z hx v H Hs Q s t q => ?_) fun ta ht => ?_
  · unfold gSortedSet2 at hx
    split at hx
    · simp only [Option.bind_eq_some_iff, Option.ite_none_right_eq_some, Option.some.injEq] at hx
      obtain ⟨ns, e1, few, rfl⟩ := hx
      rw [intsOf_inv e1] at t
      obtain ⟨a, vs, rfl, q1, r1⟩ := t
      rw [r1.ints] at q1
      refine ⟨a, ns, rfl, q1, by unfold scanBound; omega, fun p np => ⟨p, _, _, rfl, upd_same, few.2, fun ms p' h1 h2 h3 np' => ?_⟩⟩
      have e2 : ms = sortU ns := strict_eq (fun k => by rw [h2 k, sortU_mem]; simp) h1 (sortU_sorted ns)
      subst e2
      have hne : p' ≠ p := fun z => by
        subst z
        rw [upd_same] at np'
        cases np'
      have np2 : H p' = none := by rwa [upd_ne hne] at np'
      refine q (.ref p') [p'] _ (fun b o e => ?_) ?_ (by simp) (by simpa using np2)
      · rw [upd_ne (ne_of_none e np2), upd_ne (ne_of_none e np)]
        exact e
      · simp only [RepV]
        refine ⟨p', (sortU ns).map V.int, [], rfl, rfl, upd_same, ?_⟩
        have e3 : ((sortU ns).map fun n => Val.sh (.int n)) = ((sortU ns).map D.int).map Val.sh := by rw [List.map_map]; rfl
        rw [e3]
        exact (RepDs.ofInts _).shs _
    · cases hx
  · have i1 : PE X (.Call (.Name y p2) [a] [] pos2) (tCB (rSetLJ X.K X.w) (tCons ta tNil)) :=
      pe_callTy (cr_setLJ ok.calm) (gl_ok ok B2.gl) (by have := ok.md; rw [← B2.mg, ← this]; rfl) B2.bo (pa_cons ht pa_nil (star_cons hs)) B2.nn B2.nd (star_cons hs) rfl
    have i2 := pe_callB (pos := pos) (p := p) (cr_sortedSet ok.calm) (gl_ok ok B.gl) (by have := ok.md; rw [← B.mg, ← this]; rfl) B.bo (pa_cons i1 pa_nil (star_cons rfl)) B.nn B.nd (star_cons rfl) rfl
    rw [← ok.K]
    exact i2
end
end Wp
end
section
set_option Elab.async false
set_option linter.all false
set_option maxRecDepth 100000
set_option maxHeartbeats 1000000
/-! WqF: an expression that changes nothing; == of a tuple, of None and an object with an own ==; append on what has no name. -/
namespace Wp
open PySem PySem.Spec PyProof.Rows L2
section
variable {prog : Program} {w : World} {A : Around} {E : Value → Shared → Prop} {s : Shared} {K : PySem.W.Frag} {x C L f : Addr} {ox : Obj} {od : Option Obj} {b tb : Value}
theorem tuple_own {a y : Addr} {its : Array Value} {Q : Value → Shared → Prop} (hu : A.units < cLine) (X : K.In s.heap) (ht : IsTup s.heap a its) (I : PySem.W.InstAt s.heap y ox C od) (hm : PySem.W.mroIn K C (.type "tuple") = some false)
    (hs : PySem.W.findIn K (.ref C) "__eq__" = some (some (.ref f))) (hf : PySem.W.isFn K (.ref f) = true)
    (h : wpAny (model prog w) A (call (.ref f) [.ref y, .ref a]) (PySem.W.CmpBack Q) E s) : wpAny (model prog w) A (richCompare .Eq (.ref a) (.ref y)) Q E s := by
  have one : wpAny (model prog w) A (tryCompare (.ref y) (cmpInfo .Eq).2.2 (.ref a)) (fun r s' => ∃ v, r = some v ∧ Q v s') E s := by
    unfold tryCompare
    refine wpAny_bind (PySem.W.ifBound_K X I hs hf (wpAny_mono h (fun v s' hv => ?_) fun _ _ e => e))
    cases v <;> first | exact hv.elim | exact wpAny_pure ⟨_, rfl, hv⟩
  have ha : s.TypeIs (.ref a) "tuple" := ht.typeIs
  have L1 := PySem.W.looks_mroIn (M := model prog w) X hm
  unfold richCompare
  simp only [oneThing_ref]
  refine wpAny_holding (wpAny_bind (wpAny_cRoomFor hu ?_))
  refine wpAny_bind (wpAny_typeOf ha (wpAny_bind (I.type.here ?_)))
  have hne : (Value.type "tuple" != Value.ref C) = true := by rfl
  simp only [hne, if_true]
  refine wpAny_bind (L1.here ?_)
  simp only [Bool.false_eq_true, if_false, Bool.not_false, if_true]
  refine wpAny_bind (m := tryCompare (.ref a) _ (.ref y)) (wpAny_tryCompare_declines ha PySem.F.slot_tuple_eq ?_)
  refine wpAny_call (codeAny_call_builtin PySem.F.slot_tuple_eq.plain PySem.F.entry_tuple_eq (PySem.F.slot_tuple_eq.check _ _ _ _ _ _ _ _ ha (PySem.F.args_tuple_eq_2 _ _) ?_))
  show wpAny _ _ (isInstance (.ref y) (.type "tuple") >>= _) _ _ s
  refine wpAny_bind ?_
  unfold isInstance
  refine wpAny_bind (I.type.here (L1.here ?_))
  simp only [Bool.not_false, if_true]
  refine wpAny_pure ?_
  refine ⟨rfl, ?_⟩
  refine wpAny_bind (wpAny_mono one (fun r s' z => ?_) fun _ _ e => e)
  obtain ⟨v, rfl, hq⟩ := z
  exact wpAny_pure hq
end
/-! ### nothing changes -/
def sharE (η : Env) : Env := η.map (Option.map fun x => .sh x.d)
theorem RepO.sharE {G : Gc} {H Hs : Hp} (le : Le Hs H) : ∀ {η : Env} {σ : L2.St} {as : List Addr}, RepO G H Hs η σ as → RepO G H H (sharE η) σ []
  | [], _, _, h => ⟨h.1, rfl⟩
  | none :: η, σ, as, h => by
    obtain ⟨t, σ', e, r⟩ := h
    exact ⟨t, σ', e, RepO.sharE le r⟩
  | some x :: η, σ, as, h => by
    obtain ⟨v, σ', a1, a2, e, rfl, p, r⟩ := h
    exact ⟨v, σ', [], [], e, rfl, RepV.sh_iff.mpr ⟨rfl, p.frozen (fun a _ o e => e) le⟩, RepO.sharE le r⟩
theorem Rep.sharE {G : Gc} {H Hs : Hp} {η : Env} {σ : L2.St} {as : List Addr} (h : Rep G η σ as H Hs) : Rep G (Wp.sharE η) σ [] H H :=
  ⟨Le.refl, h.env.sharE h.le, List.nodup_nil, fun _ z => nomatch z⟩
def immD : D → Bool
  | .non => true
  | .bl _ => true
  | .int _ => true
  | .str _ => true
  | _ => false
theorem immD_any {G : Gc} {H H' : Hp} {d : D} {v : V} (i : immD d = true) (h : RepD G H d v) : RepD G H' d v := by
  cases d <;> first | (simp only [immD, Bool.false_eq_true] at i; done) | simpa only [RepD] using h
def fPure (f : FO) : FO := fun η => match f (sharE η) with
  | some (.ok (.pend (.sh d)) _) => if immD d = true then okR (.pend (.sh d)) η else none
  | _ => none
def fPureT (f : FT) : FT := fun η => match f (sharE η) with
  | some (.ok b _) => okR b η
  | _ => none
theorem Rep.asideE {G : Gc} {H Hs H' Hs' : Hp} {η : Env} {σ : L2.St} {as as' : List Addr} (h : Rep G η σ as H Hs) (x : Ext [] H H as' H' Hs') : Rep G η σ as H' Hs ∧ Ext as H Hs as H' Hs := by
  have k : ∀ c o, H c = some o → H' c = some o := fun c o e => x.keep c o e (fun z => nomatch z)
  refine ⟨⟨fun c o e => ?_, h.env.stay (fun a _ o e => k a o e) Le.refl, h.nd, h.off⟩, fun c o e _ => k c o e, Sub.refl, fun c z => .inl z, fun a ha => .inl ha⟩
  rcases h.le c o e with z | ⟨ob, kvs, z1, z2⟩
  · exact .inl (k c o z)
  · exact .inr ⟨ob, kvs, z1, k c _ z2⟩
section
variable {M : Md} {S : Sc} {k : Nat} {W : WX} {X : Cx} {kp : List Nat} {a b e : Expr} {es : List Expr} {fa fb : FO} {pos p : Pos} {x : Str}
theorem ok_pure (h : OkO M X W e fa) : OkO M X W e (fPure fa) := by
  obtain ⟨t, ht, hh⟩ := h
  refine ⟨t, ht, fun η σ as H Hs r Q hR hf hp => ?_⟩
  unfold fPure at hf
  split at hf
  · rename_i d η' he
    split at hf
    · rename_i hi
      obtain rfl : r = .ok (.pend (.sh d)) η := (Option.some.inj hf).symm
      refine hh _ σ [] H H _ Q hR.sharE he fun v as' H' Hs' r1 l1 x1 => ?_
      obtain ⟨r2, x2⟩ := hR.asideE x1
      obtain ⟨u, σ', a1, a2, e1, _, rv, _⟩ := r1.env
      obtain ⟨e2, rfl⟩ := List.cons.inj e1
      obtain rfl := Option.some.inj e2
      obtain ⟨_, rd⟩ := RepV.sh_iff.mp rv
      exact hp _ as H' Hs (r2.push_sh (immD_any hi rd)) trivial x2
    · cases hf
  · cases hf
theorem okT_pure {ft : FT} (h : OkT M X W e ft) : OkT M X W e (fPureT ft) := by
  obtain ⟨t, ht, hh⟩ := h
  refine ⟨t, ht, fun η σ as H Hs r Q hR hf hp => ?_⟩
  unfold fPureT at hf
  split at hf
  · rename_i bb η' he
    obtain rfl : r = .ok bb η := (Option.some.inj hf).symm
    refine hh _ σ [] H H _ Q hR.sharE he fun as' H' Hs' r1 x1 => ?_
    obtain ⟨r2, x2⟩ := hR.asideE x1
    exact hp as H' Hs r2 x2
  · cases hf
/-! ### is, of truth values -/
def gIsB (neg : Bool) : D → D → Option Val
  | .bl a, .bl b => some (.sh (.bl (if neg then !(decide (a = b)) else decide (a = b))))
  | _, _ => none
theorem bool_beq (a b : Bool) : (Value.bool a == Value.bool b) = decide (a = b) := by cases a <;> cases b <;> rfl
theorem op_isB {X : Cx} : OpR X (compareOp .Is) (fun x y H Q => ∃ a b, x = .bl a ∧ y = .bl b ∧ Q (.bl (decide (a = b))) H) := by
  intro pins s σ H x y v u Q I rx ry h
  obtain ⟨a, b, rfl, rfl, q⟩ := h
  cases rx
  cases ry
  exact wpAny_is_plain rfl (fin_bl I q (bool_beq a b).symm)
theorem op_notB {X : Cx} : OpR X (compareOp .IsNot) (fun x y H Q => ∃ a b, x = .bl a ∧ y = .bl b ∧ Q (.bl (!decide (a = b))) H) := by
  intro pins s σ H x y v u Q I rx ry h
  obtain ⟨a, b, rfl, rfl, q⟩ := h
  cases rx
  cases ry
  exact wpAny_isNot_plain rfl (fin_bl I q (congrArg not (bool_beq a b).symm))
theorem p_isB {G : Gc} : P2 G (fun x y H Q => ∃ a b, x = .bl a ∧ y = .bl b ∧ Q (.bl (decide (a = b))) H) (gIsB false) := fun d e x hx v u H Hs Q s t1 t2 q => by
  unfold gIsB at hx
  split at hx
  · rename_i a b
    obtain rfl := Option.some.inj hx
    exact ⟨a, b, t1, t2, q.bl⟩
  · cases hx
theorem p_notB {G : Gc} : P2 G (fun x y H Q => ∃ a b, x = .bl a ∧ y = .bl b ∧ Q (.bl (!decide (a = b))) H) (gIsB true) := fun d e x hx v u H Hs Q s t1 t2 q => by
  unfold gIsB at hx
  split at hx
  · rename_i a b
    obtain rfl := Option.some.inj hx
    exact ⟨a, b, t1, t2, q.bl⟩
  · cases hx
theorem ok_isB (ha : OkO M X W a fa) (hb : OkO M X W b fb) : OkO M X W (.Compare a [.Is] [b] pos) (f2 fa fb (p2 (gIsB false))) := ok_cmp op_isB (nomark _) p_isB ha hb
theorem okT_isB (ha : OkO M X W a fa) (hb : OkO M X W b fb) : OkT M X W (.Compare a [.Is] [b] pos) (fBl (f2 fa fb (p2 (gIsB false)))) := okT_cmp op_isB (nomark _) p_isB ha hb
theorem ok_notB (ha : OkO M X W a fa) (hb : OkO M X W b fb) : OkO M X W (.Compare a [.IsNot] [b] pos) (f2 fa fb (p2 (gIsB true))) := ok_cmp op_notB (nomark _) p_notB ha hb
theorem okT_notB (ha : OkO M X W a fa) (hb : OkO M X W b fb) : OkT M X W (.Compare a [.IsNot] [b] pos) (fBl (f2 fa fb (p2 (gIsB true)))) := okT_cmp op_notB (nomark _) p_notB ha hb
/-! ### append on what has no name -/
def fAppT (fo fe : FO) : FO := fun η => bindR (fo η) fun o η1 => match o with
  | .pend (.ol us) => bindR (fe η1) fun q η2 => (match esc1 q η2 with
    | some (_, η3) => if us.length < sizeLine then okR (.pend (.sh .non)) η3 else none
    | none => none)
  | _ => none
theorem ok_appT {o : Expr} {fo : FO} {apos : Pos} (ok : Cok M S k W X) (ho : OkO M X W o fo) (he : OkO M X W e fa) (hb : baseOk o = true) (hs : noStar e = true) (hl : (apos.endLine == pos.line) = true) : OkO M X W (.Call (.Attribute o "append" apos) [e] [] pos) (fAppT fo fa) := by
  obtain ⟨t, ht, hh⟩ := he.framed
  obtain ⟨to, hto, hho⟩ := ho
  refine ⟨_, pe_bm hto (pa := PySem.F.plainAttrs_list) (slot := PySem.F.slot_list_append) (hty := PySem.F.type_list_append) (hm := mt_append) (ha := pa_cons ht pa_nil (star_cons hs)) (hbase := base_ok hb) (hfew := by rw [star_cons hs]; rfl) (hline := hl) (hs := star_cons hs) (hplain := rfl), fun η σ as H Hs res Q hR hf hp => ?_⟩
  rcases bindR_inv hf with ⟨o1, η1, e1, e2⟩ | ⟨c, p, η1, e1, rfl⟩
  · refine hho η σ as H Hs _ _ hR e1 fun v as' H' Hs' r1 l1 x1 => ?_
    rcases o1 with y | j
    · rcases y with d | us | _ | _ | _ <;> first | (cases e2; done) | skip
      simp only at e2
      obtain ⟨u0, σ', b1, b2, e3, _, rv, _⟩ := r1.env
      obtain ⟨e4, rfl⟩ := List.cons.inj e3
      obtain rfl := Option.some.inj e4
      simp only [RepV] at rv
      obtain ⟨l, vs0, bs, rfl, _, hl0, _⟩ := rv
      refine ⟨.inl ⟨rfl, _, SqL.of hl0⟩, ?_⟩
      rcases bindR_inv e2 with ⟨q, η2, e5, e6⟩ | ⟨c, p, η2, e5, rfl⟩
      · refine hh [some (.ol us)] [some (.ref l)] η1 σ as' H' Hs' _ _ r1 rfl e5 fun zv as2 H2 Hs2 r2 l2 x2 => ?_
        cases e7 : esc1 q η2 with
        | none =>
          simp only [e7] at e6
          cases e6
        | some w =>
          obtain ⟨z, η3⟩ := w
          simp only [e7] at e6
          by_cases hz : us.length < sizeLine
          · rw [if_pos hz] at e6
            obtain rfl : res = .ok (.pend (.sh .non)) η3 := (Option.some.inj e6).symm
            obtain ⟨as3, Hs3, r3, x3⟩ := esc1_ok r2 rfl l2 e7
            obtain ⟨vs, hv, lv, as4, r4, x4⟩ := Rep.append (π := []) (τ := []) r3 rfl
            obtain ⟨as5, r5, m5⟩ := Rep.pop r4
            exact ⟨l, vs, zv, rfl, rfl, hv, by omega, hp .non _ _ _ (r5.push_sh (by simp only [RepD])) trivial (x1.trans (x2.trans (x3.trans (x4.less m5))))⟩
          · rw [if_neg hz] at e6
            cases e6
      · refine hh [some (.ol us)] [some (.ref l)] η1 σ as' H' Hs' _ _ r1 rfl e5 fun v2 dx as2 H2 Hs2 r2 hX x2 => ?_
        exact hp v2 dx as2 H2 Hs2 r2 hX (x1.trans x2)
    · cases e2
  · exact hho η σ as H Hs _ _ hR e1 hp
end
end Wp
end
section
set_option Elab.async false
set_option linter.all false
set_option maxRecDepth 100000
set_option maxHeartbeats 1000000
/-! WqG: == of an object with an own == and None; of a tuple and such an object. -/
namespace Wp
open PySem PySem.Spec PyProof.Rows L2
def fEqN (mt : Nat → Option Fi) (fa fb : FO) : FO := fun η => bindR (fa η) fun o η1 => bindR (fb η1) fun o2 η2 => match o.cls η2, o2 with
  | some (c, _), .pend (.sh .non) => (match mt c with
    | some i => (match callR i.n i.ms i.F (i.dv 2) [o, .pend (.sh .non)] η2 with
      | some (.ok (.pend (.sh (.bl b))) η3) => okR (.pend (.sh (.bl b))) η3
      | _ => none)
    | none => none)
  | _, _ => none
def rEqN (X : Cx) (k : Nat) : R2 := fun x y H Q => ∃ a C f fd ps sp dvs ds dx fs, x = .ref a ∧ y = .non ∧ H a = some (.ins C dx fs) ∧ PySem.W.findIn X.K (.ref C) "__eq__" = some (some (.ref f)) ∧ PySem.W.isFn X.K (.ref f) = true ∧
  FnG X.prog X.w X.K X.mg X.base k f fd ps sp ∧ L2.Binds X.K fd ps ds ∧ Vals dvs ds ∧ sp (.ref a :: .non :: dvs) H (fun v H' => (∃ r, v = .bl r) ∧ Q v H') (fun _ _ _ => False)
theorem op_eqN {X : Cx} {k : Nat} (gd : X.A.guards = some []) (hr : Room k X.A) : OpR X (compareOp .Eq) (rEqN X k) := by
  intro pins s σ H x y v u Q I rx ry h
  obtain ⟨a, C, f, fd, ps, sp, dvs, ds, dx, fs, rfl, rfl, ha, hs, hf, F, hbi, hd, hq⟩ := h
  cases rx
  cases ry
  obtain ⟨mA, J, _⟩ := ins_get I.hok ha
  obtain ⟨od, J, _⟩ := J.look
  obtain ⟨m, hF⟩ := I.fr
  show wpAny (model X.prog X.w) X.A (richCompare .Eq (.ref a) .none) (EP X pins σ Q) X.xe s
  refine PySem.W.cmp_K (op := .Eq) (tb := .type "NoneType") hr.units0 hF I.ok.mod.kin J (PySem.W.Looks.of_pure rfl) (by rfl) hs hf ?_
  have rr : Vals (V.ref a :: V.non :: dvs) (Value.ref a :: Value.none :: ds) := .cons rfl (.cons rfl hd)
  have hl : ([Value.ref a, Value.none] ++ ds).length = ps.length := by
    have := F.len _ _ _ _ hq
    rw [rr.length] at this
    exact this
  have run := F.run X.A X.stack s H ⟨[.ref a, .none], []⟩ _ _ _ _ gd hr I.env0 (hbi s [.ref a, .none] I.kIn hl) rr hq
  refine wpAny_call (codeAny_mono run fun res s' hres => ?_)
  rcases res with er | fl
  · obtain ⟨_, _, _, _, _, _, _, _, _, _, _, _, z⟩ := hres
    exact z.elim
  · cases fl with
    | ret w =>
      obtain ⟨z, H', I', rz, ⟨r, ez⟩, q⟩ := I.after hres
      subst ez
      cases rz
      exact ⟨.bl r, H', I', rfl, q⟩
    | _ => exact hres.elim
def tupD : Opv → Option (List D)
  | .pend x => (match x.d with
    | .tup xs => some xs
    | _ => none)
  | _ => none
def fEqTu (mt : Nat → Option Fi) (fa fb : FO) : FO := fun η => bindR (fa η) fun o η1 => bindR (fb η1) fun o2 η2 => match tupD o, o2.cls η2 with
  | some xs, some (c, _) => (match mt c with
    | some i => (match callR i.n i.ms i.F (i.dv 2) [o2, .pend (.sh (.tup xs))] η2 with
      | some (.ok (.pend (.sh (.bl b))) η3) => okR (.pend (.sh (.bl b))) η3
      | _ => none)
    | none => none)
  | _, _ => none
def rEqTu (X : Cx) (k : Nat) : R2 := fun x y H Q => ∃ a b xs C f fd ps sp dvs ds dx fs, x = .ref a ∧ y = .ref b ∧ SqT X.K H a xs ∧ H b = some (.ins C dx fs) ∧ PySem.W.findIn X.K (.ref C) "__eq__" = some (some (.ref f)) ∧ PySem.W.isFn X.K (.ref f) = true ∧ PySem.W.mroIn X.K C (.type "tuple") = some false ∧
  FnG X.prog X.w X.K X.mg X.base k f fd ps sp ∧ L2.Binds X.K fd ps ds ∧ Vals dvs ds ∧ sp (.ref b :: .ref a :: dvs) H (fun v H' => (∃ r, v = .bl r) ∧ Q v H') (fun _ _ _ => False)
theorem op_eqTu {X : Cx} {k : Nat} (gd : X.A.guards = some []) (hr : Room k X.A) : OpR X (compareOp .Eq) (rEqTu X k) := by
  intro pins s σ H x y v u Q I rx ry h
  obtain ⟨a, b, xs, C, f, fd, ps, sp, dvs, ds, dx, fs, rfl, rfl, ht, hb, hs, hf, hm, F, hbi, hd, hq⟩ := h
  cases rx
  cases ry
  obtain ⟨mA, J, _⟩ := ins_get I.hok hb
  obtain ⟨od, J, _⟩ := J.look
  obtain ⟨its, _, it, _⟩ := I.tuple ht
  show wpAny (model X.prog X.w) X.A (richCompare .Eq (.ref a) (.ref b)) (EP X pins σ Q) X.xe s
  refine tuple_own hr.units0 I.kIn it J hm hs hf ?_
  have rr : Vals (V.ref b :: V.ref a :: dvs) (Value.ref b :: Value.ref a :: ds) := .cons rfl (.cons rfl hd)
  have hl : ([Value.ref b, Value.ref a] ++ ds).length = ps.length := by
    have := F.len _ _ _ _ hq
    rw [rr.length] at this
    exact this
  have run := F.run X.A X.stack s H ⟨[.ref b, .ref a], []⟩ _ _ _ _ gd hr I.env0 (hbi s [.ref b, .ref a] I.kIn hl) rr hq
  refine wpAny_call (codeAny_mono run fun res s' hres => ?_)
  rcases res with er | fl
  · obtain ⟨_, _, _, _, _, _, _, _, _, _, _, _, z⟩ := hres
    exact z.elim
  · cases fl with
    | ret w =>
      obtain ⟨z, H', I', rz, ⟨r, ez⟩, q⟩ := I.after hres
      subst ez
      cases rz
      exact ⟨.bl r, H', I', rfl, q⟩
    | _ => exact hres.elim
def TuOk (M : Md) (k : Nat) (mt : Nat → Option Fi) : Prop := ∀ c i, mt c = some i → ∃ f, PySem.W.findIn M.K (.ref (M.C c)) "__eq__" = some (some (.ref f)) ∧ PySem.W.isFn M.K (.ref f) = true ∧ PySem.W.mroIn M.K (M.C c) (.type "tuple") = some false ∧ Cb M k f i.F i.n i.df ∧ i.df.length + 2 - i.n ≤ i.df.length
def notTupB (K : PySem.W.Frag) (x : Str) : Bool := decide (PySem.W.mroIn K (He.ga K x) (.type "tuple") = some false)
theorem notTupB_ok {K : PySem.W.Frag} {x : Str} (h : notTupB K x = true) : PySem.W.mroIn K (He.ga K x) (.type "tuple") = some false := of_decide_eq_true h
theorem eq_bl_inv {i : Fi} {os : List Opv} {η2 : Env} {res : Res Opv} (e4 : (match callR i.n i.ms i.F (i.dv 2) os η2 with
      | some (.ok (.pend (.sh (.bl b))) η3) => okR (.pend (.sh (.bl b))) η3
      | _ => none) = some res) : ∃ b η3, callR i.n i.ms i.F (i.dv 2) os η2 = some (.ok (.pend (.sh (.bl b))) η3) ∧ res = .ok (.pend (.sh (.bl b))) η3 := by
  split at e4
  · rename_i b η3 e
    exact ⟨b, η3, e, (Option.some.inj e4).symm⟩
  · cases e4
/-- a shared value put in behind the top -/
theorem Rep.second {G : Gc} {η : Env} {σ : L2.St} {as : List Addr} {H Hs : Hp} {x : Option Val} {v : V} {d : D} {u : V} (h : Rep G (x :: η) (some v :: σ) as H Hs) (r : RepD G Hs d u) : Rep G (x :: some (.sh d) :: η) (some v :: some u :: σ) as H Hs := by
  refine ⟨h.le, ?_, h.nd, h.off⟩
  cases x with
  | none =>
    obtain ⟨s, σ', e, q⟩ := h.env
    obtain ⟨rfl, rfl⟩ := List.cons.inj e
    exact ⟨_, _, rfl, u, _, [], as, rfl, rfl, RepV.sh_iff.mpr ⟨rfl, r⟩, q⟩
  | some x =>
    obtain ⟨w, σ', a1, a2, e, rfl, p, q⟩ := h.env
    obtain ⟨e1, rfl⟩ := List.cons.inj e
    obtain rfl := Option.some.inj e1
    exact ⟨_, _, a1, a2, rfl, rfl, p, u, _, [], a2, rfl, rfl, RepV.sh_iff.mpr ⟨rfl, r⟩, q⟩
section
variable {M : Md} {S : Sc} {k : Nat} {W : WX} {X : Cx} {kp : List Nat} {a b : Expr} {fa fb : FO} {pos : Pos}
theorem eqN_P {P : TE → Prop} {mt : Nat → Option Fi} (ok : Cok M S k W X) (hmt : EqOk M k mt) (ha : OkO M X W a fa) (hb : OkO M X W b fb)
    (he : ∀ ta tb, PE X a ta → PE X b tb → P (tOp (rEqN X k) ta tb)) : ∃ t, P t ∧ ∀ η σ as H Hs res Q, Rep M.G η σ as H Hs → fEqN mt fa fb η = some res → PostO M.G W σ as H Hs Q res → t σ H Q := by
  obtain ⟨P', w, K, mg, base, C⟩ := M
  have emd := ok.md
  simp only [mdOf, Md.mk.injEq, and_true] at emd
  obtain ⟨rfl, rfl, rfl, rfl, rfl⟩ := emd
  obtain ⟨ta, hta, hha⟩ := ha
  obtain ⟨tb, htb, hhb⟩ := hb.framed
  refine ⟨_, he ta tb hta htb, fun η σ as H Hs res Q hR hf hp => ?_⟩
  rcases bindR_inv hf with ⟨o, η1, e1, e2⟩ | ⟨c, p, η1, e1, rfl⟩
  · refine hha η σ as H Hs _ _ hR e1 fun v as' H' Hs' r1 l1 x1 => ?_
    rcases bindR_inv e2 with ⟨o2, η2, e3, e4⟩ | ⟨c, p, η2, e3, rfl⟩
    · refine hhb [o.p] [some v] η1 σ as' H' Hs' _ _ r1 rfl e3 fun v2 as2 H2 Hs2 r2 l2 x2 => ?_
      have r2 : Rep _ (o.p :: o2.p :: η2) (some v :: some v2 :: σ) as2 H2 Hs2 := r2
      cases c1 : o.cls η2 with
      | none =>
        simp only [c1] at e4
        cases e4
      | some q1 =>
        obtain ⟨c, fs⟩ := q1
        rcases o2 with y | j
        · rcases y with dd | _ | _ | _ | _ <;> first | (simp only [c1] at e4; cases e4; done) | skip
          cases dd <;> first | (simp only [c1] at e4; cases e4; done) | skip
          simp only [c1] at e4
          cases em : mt c with
          | none =>
            rw [em] at e4
            cases e4
          | some i =>
            rw [em] at e4
            obtain ⟨bb, η3, e5, rfl⟩ := eq_bl_inv e4
            obtain ⟨f, h1, h2, cb, hle⟩ := hmt c i em
            obtain ⟨fd, ps, F, hd⟩ := cb.ex
            obtain ⟨dvs, ds, d1, d2, d3⟩ := hd _ hle
            obtain ⟨a3, r3, m3⟩ : ∃ a3, Rep _ (o.p :: η2) (some v :: σ) a3 H2 Hs2 ∧ ∀ a ∈ a3, a ∈ as2 := by
              obtain ⟨a3, m3, r3⟩ := Rep.dropMid (A := [o.p]) (τ := [some v]) r2 rfl
              exact ⟨a3, r3, m3⟩
            obtain ⟨a4, r4, m4⟩ := Rep.pop r2
            obtain ⟨a, dx, vs, rfl, ea, _⟩ := Opv.cls_ok r3 l1 c1
            obtain ⟨u0, σ', b1, b2, e6, _, rv, _⟩ := r4.env
            obtain ⟨e7, rfl⟩ := List.cons.inj e6
            obtain rfl := Option.some.inj e7
            obtain ⟨_, rd⟩ := RepV.sh_iff.mp rv
            obtain rfl : v2 = .non := by simpa only [RepD] using rd
            refine ⟨a, _, f, fd, ps, _, dvs, ds, dx, _, rfl, rfl, ea, h1, h2, F, d3, d2, ?_⟩
            refine callR_ok (W := fun _ _ _ _ => False) d1 (os := [o, .pend (.sh .non)]) (vs := [.ref a, .non]) r2 ⟨_, _, rfl, l1, _, _, rfl, l2, rfl⟩ (x1.trans x2) e5 fun v' as' H' Hs' rr lk xx => ⟨⟨bb, ?_⟩, hp v' as' H' Hs' rr lk xx⟩
            obtain ⟨w', σ', y1, y2, z1, rfl, rv, _⟩ := rr.env
            obtain ⟨z2, rfl⟩ := List.cons.inj z1
            obtain rfl := Option.some.inj z2
            obtain ⟨rfl, rd⟩ := RepV.sh_iff.mp rv
            simpa only [RepD] using rd
        · simp only [c1] at e4
          cases e4
    · refine hhb [o.p] [some v] η1 σ as' H' Hs' _ _ r1 rfl e3 fun v2 dx as2 H2 Hs2 r2 hX x2 => ?_
      exact hp v2 dx as2 H2 Hs2 r2 hX (x1.trans x2)
  · exact hha η σ as H Hs _ _ hR e1 hp
theorem ok_eqN {mt : Nat → Option Fi} (ok : Cok M S k W X) (hmt : EqOk M k mt) (ha : OkO M X W a fa) (hb : OkO M X W b fb) : OkO M X W (.Compare a [.Eq] [b] pos) (fEqN mt fa fb) :=
  eqN_P ok hmt ha hb fun _ _ h1 h2 => pe_cmpR (op_eqN ok.gd ok.room) h1 h2 (nomark _)
theorem okT_eqN {mt : Nat → Option Fi} (ok : Cok M S k W X) (hmt : EqOk M k mt) (ha : OkO M X W a fa) (hb : OkO M X W b fb) : OkT M X W (.Compare a [.Eq] [b] pos) (fBl (fEqN mt fa fb)) := by
  obtain ⟨t, ⟨h1, h2⟩, hh⟩ := eqN_P (P := fun t => PE X (.Compare a [.Eq] [b] pos) t ∧ PT X (.Compare a [.Eq] [b] pos) (tTest t)) ok hmt ha hb fun _ _ h1 h2 => ⟨pe_cmpR (op_eqN ok.gd ok.room) h1 h2 (nomark _), pt_cmpR (op_eqN ok.gd ok.room) h1 h2 (nomark _)⟩
  exact okT_of ⟨t, h1, h2, hh⟩
theorem eqTu_P {P : TE → Prop} {mt : Nat → Option Fi} (ok : Cok M S k W X) (hmt : TuOk M k mt) (ha : OkO M X W a fa) (hb : OkO M X W b fb)
    (he : ∀ ta tb, PE X a ta → PE X b tb → P (tOp (rEqTu X k) ta tb)) : ∃ t, P t ∧ ∀ η σ as H Hs res Q, Rep M.G η σ as H Hs → fEqTu mt fa fb η = some res → PostO M.G W σ as H Hs Q res → t σ H Q := by
  obtain ⟨P', w, K, mg, base, C⟩ := M
  have emd := ok.md
  simp only [mdOf, Md.mk.injEq, and_true] at emd
  obtain ⟨rfl, rfl, rfl, rfl, rfl⟩ := emd
  obtain ⟨ta, hta, hha⟩ := ha
  obtain ⟨tb, htb, hhb⟩ := hb.framed
  refine ⟨_, he ta tb hta htb, fun η σ as H Hs res Q hR hf hp => ?_⟩
  rcases bindR_inv hf with ⟨o, η1, e1, e2⟩ | ⟨c, p, η1, e1, rfl⟩
  · refine hha η σ as H Hs _ _ hR e1 fun v as' H' Hs' r1 l1 x1 => ?_
    rcases bindR_inv e2 with ⟨o2, η2, e3, e4⟩ | ⟨c, p, η2, e3, rfl⟩
    · refine hhb [o.p] [some v] η1 σ as' H' Hs' _ _ r1 rfl e3 fun v2 as2 H2 Hs2 r2 l2 x2 => ?_
      have r2 : Rep _ (o.p :: o2.p :: η2) (some v :: some v2 :: σ) as2 H2 Hs2 := r2
      cases c0 : tupD o with
      | none =>
        simp only [c0] at e4
        cases e4
      | some xs =>
        cases c1 : o2.cls η2 with
        | none =>
          simp only [c0, c1] at e4
          cases e4
        | some q1 =>
          obtain ⟨c, fs⟩ := q1
          simp only [c0, c1] at e4
          cases em : mt c with
          | none =>
            rw [em] at e4
            cases e4
          | some i =>
            rw [em] at e4
            obtain ⟨bb, η3, e5, rfl⟩ := eq_bl_inv e4
            obtain ⟨f, h1, h2, h3, cb, hle⟩ := hmt c i em
            obtain ⟨fd, ps, F, hd⟩ := cb.ex
            obtain ⟨dvs, ds, d1, d2, d3⟩ := hd _ hle
            obtain ⟨x, rfl, ed⟩ : ∃ x, o = .pend x ∧ x.d = .tup xs := by
              rcases o with y | j
              · refine ⟨y, rfl, ?_⟩
                simp only [tupD] at c0
                split at c0
                · rename_i z ez
                  rw [ez, Option.some.inj c0]
                · cases c0
              · cases c0
            obtain ⟨a3, Hs3, r3, x3, rd⟩ := Rep.freeze0 (x := x) r2
            rw [ed] at rd
            obtain ⟨a4, r4, m4⟩ := Rep.pop r3
            obtain ⟨b, dx, vs, rfl, ea, _⟩ := Opv.cls_ok r4 l2 c1
            have r5 := r4.second rd
            have rd2 := rd
            simp only [RepD] at rd2
            obtain ⟨a, ws, rfl, sq, _⟩ := rd2
            refine ⟨a, b, ws, _, f, fd, ps, _, dvs, ds, dx, _, rfl, rfl, SqT.le sq r4.le, ea, h1, h2, h3, F, d3, d2, ?_⟩
            refine callR_ok (W := fun _ _ _ _ => False) d1 (os := [o2, .pend (.sh (.tup xs))]) (vs := [.ref b, .ref a]) r5 ⟨_, _, rfl, l2, _, _, rfl, trivial, rfl⟩ (x1.trans (x2.trans (x3.less m4))) e5 fun v' as' H' Hs' rr lk xx => ⟨⟨bb, ?_⟩, hp v' as' H' Hs' rr lk xx⟩
            obtain ⟨w', σ', y1, y2, z1, rfl, rv, _⟩ := rr.env
            obtain ⟨z2, rfl⟩ := List.cons.inj z1
            obtain rfl := Option.some.inj z2
            obtain ⟨rfl, rd⟩ := RepV.sh_iff.mp rv
            simpa only [RepD] using rd
    · refine hhb [o.p] [some v] η1 σ as' H' Hs' _ _ r1 rfl e3 fun v2 dx as2 H2 Hs2 r2 hX x2 => ?_
      exact hp v2 dx as2 H2 Hs2 r2 hX (x1.trans x2)
  · exact hha η σ as H Hs _ _ hR e1 hp
theorem ok_eqTu {mt : Nat → Option Fi} (ok : Cok M S k W X) (hmt : TuOk M k mt) (ha : OkO M X W a fa) (hb : OkO M X W b fb) : OkO M X W (.Compare a [.Eq] [b] pos) (fEqTu mt fa fb) :=
  eqTu_P ok hmt ha hb fun _ _ h1 h2 => pe_cmpR (op_eqTu ok.gd ok.room) h1 h2 (nomark _)
theorem okT_eqTu {mt : Nat → Option Fi} (ok : Cok M S k W X) (hmt : TuOk M k mt) (ha : OkO M X W a fa) (hb : OkO M X W b fb) : OkT M X W (.Compare a [.Eq] [b] pos) (fBl (fEqTu mt fa fb)) := by
  obtain ⟨t, ⟨h1, h2⟩, hh⟩ := eqTu_P (P := fun t => PE X (.Compare a [.Eq] [b] pos) t ∧ PT X (.Compare a [.Eq] [b] pos) (tTest t)) ok hmt ha hb fun _ _ h1 h2 => ⟨pe_cmpR (op_eqTu ok.gd ok.room) h1 h2 (nomark _), pt_cmpR (op_eqTu ok.gd ok.room) h1 h2 (nomark _)⟩
  exact okT_of ⟨t, h1, h2, hh⟩
end
end Wp
end
section
set_option Elab.async false
set_option linter.all false
set_option maxRecDepth 100000
set_option maxHeartbeats 1000000
/-! WqH: a local handed out whole; rules for running WpY..WqG. -/
namespace Wp
open PySem PySem.Spec PyProof.Rows L2
section
variable {M : Md} {S : Sc} {k : Nat} {W : WX} {X : Cx} {kp : List Nat} {pos : Pos}
/-- return x: the local's value goes out as it is -/
def fRetM (f : FO) : FS := fun η => bindR (f η) fun o η1 => match arg1 o η1 with
  | some (x, η2) => okR (.ret x) η2
  | none => none
theorem ok_retM {e : Expr} {f : FO} (he : OkO M X W e f) : OkS M X W kp (.Return (some e) pos) (fRetM f) := by
  obtain ⟨t, ht, hh⟩ := he
  refine ⟨_, ps_ret ht, fun η σ as H Hs r D hR hf hp => ?_⟩
  rcases bindR_inv hf with ⟨o, η1, e1, e2⟩ | ⟨c, p, η1, e1, rfl⟩
  · refine hh η σ as H Hs _ _ hR e1 fun v as' H' Hs' r1 l1 x1 => ?_
    cases e3 : arg1 o η1 with
    | none =>
      rw [e3] at e2
      cases e2
    | some q =>
      obtain ⟨y, η2⟩ := q
      rw [e3] at e2
      obtain rfl : r = .ok (.ret y) η2 := (Option.some.inj e2).symm
      obtain ⟨as2, p2, r2⟩ := arg1_ok (π := []) (τ := []) r1 rfl l1 e3
      exact hp v σ as2 H' Hs' r2 (x1.permR p2) Kept.refl
  · exact hh η σ as H Hs _ _ hR e1 (PostX.toS hp)
end
section
variable {η η0 η1 η2 η3 η4 η5 θ : Env} {o p q : Opv} {os : List Opv} {fa fb fc f fo fe : FO} {ft : FT} {g : FL} {x y z : Val} {d e : D} {ds : List D} {i j l : Nat} {b : Bool} {F : FF} {ms : List Bool} {xs xs2 : List Val} {c n na : Nat} {fs gs : List Str}
theorem e_pure (h0 : Lf (sharE η = η1)) (h : f η1 = some (.ok (.pend z) η2)) (h1 : Lf (z = .sh d)) (hi : Lf (immD d = true)) : fPure f η = some (.ok (.pend (.sh d)) η) := by
  obtain ⟨rfl⟩ := h1
  unfold fPure
  rw [h0.h, h]
  simp only [hi.h, if_true, okR]
theorem e_pureS (h0 : Lf (sharE η = η1)) (h : f η1 = some (.ok (.slot i) η2)) : fPure f η = none := by
  unfold fPure
  rw [h0.h, h]
theorem e_pureT (h0 : Lf (sharE η = η1)) (h : ft η1 = some (.ok b η2)) : fPureT ft η = some (.ok b η) := by
  unfold fPureT
  rw [h0.h, h]
  rfl
theorem e_retM (h : f η = some (.ok o η1)) (h2 : Lf (arg1 o η1 = some (x, η2))) : fRetM f η = some (.ok (.ret x) η2) := by
  unfold fRetM
  rw [h, bindR_some]
  simp only [h2.h, okR]
theorem e_appT {us : List Val} (ho : fo η = some (.ok o η1)) (h0 : Lf (o = .pend (.ol us))) (h : fe η1 = some (.ok p η2)) (h2 : Lf (esc1 p η2 = some (z, η3))) (hz : Sz (us.length < sizeLine)) : fAppT fo fe η = some (.ok (.pend (.sh .non)) η3) := by
  obtain ⟨rfl⟩ := h0
  unfold fAppT
  rw [ho, bindR_some]
  simp only [h, bindR_some, h2.h, if_pos hz.h, okR]
theorem e_callD {q : Fi} {df dv : List D} (hi : Lf (q = ⟨F, n, ms, df⟩)) (hg : g η = some (.ok os η1)) (ha : Lf (argAll ms os η1 = some (xs, η2))) (hn : Lf (os.length = na)) (hd : Lf ((⟨F, n, ms, df⟩ : Fi).dv na = dv)) (hn2 : Lf (os.length + dv.length = n)) (hx : Lf (xs ++ dv.map .sh = xs2))
    (hF : F xs2 = some (.ok x θ)) (hb : Lf (backAll os θ η2 = η3)) : fCallN q na g η = some (.ok (.pend x) η3) := by
  obtain ⟨rfl⟩ := hi
  unfold fCallN
  rw [hg, bindR_some, if_pos hn.h]
  unfold callR
  rw [ha.h]
  simp only [hd.h, hn2.h, if_true, hx.h, hF, hb.h]
theorem e_prop {pt : Nat → Option Fi} {m : Str} (ho : fa η = some (.ok o η1)) (hc : Lf (o.cls η1 = some (c, fs))) (hm : Lf ((decide (m ∈ fs)) = false)) (hi : Lf (pt c = some ⟨F, 1, ms, []⟩))
    (ha : Lf (argAll ms [o] η1 = some (xs, η2))) (hF : F xs = some (.ok x θ)) (hb : Lf (backAll [o] θ η2 = η3)) : fAttr (fun _ => false) pt m fa η = some (.ok (.pend x) η3) := by
  unfold fAttr
  rw [ho, bindR_some]
  simp only [hc.h]
  rw [if_neg (of_decide_eq_false hm.h)]
  simp only [hi.h]
  simp only [show (Fi.dv ⟨F, 1, ms, []⟩ 1) = [] from by simp [Fi.dv]]
  rw [callR_e (n := 1) ha rfl hF hb.h]
  rfl
theorem callR_b (ha : argAll ms [o, p] η = some (xs, η3)) (hF : F xs = some (.ok (.sh (.bl b)) θ)) : callR 2 ms F [] [o, p] η = some (.ok (.pend (.sh (.bl b))) (backAll [o, p] θ η3)) := by
  unfold callR
  rw [ha]
  simp only [List.length_nil, List.length_cons, Nat.add_zero, Nat.zero_add, Nat.reduceAdd, if_true, List.map_nil, List.append_nil, hF]
theorem dv2_nil : (Fi.dv ⟨F, 2, ms, []⟩ 2) = [] := by simp [Fi.dv]
theorem e_neO {mt : Nat → Option Fi} (h1 : fa η = some (.ok o η1)) (h2 : fb η1 = some (.ok p η2)) (hc : Lf (o.cls η2 = some (c, fs))) (hc2 : Lf (p.cls η2 = some (c, gs)))
    (hi : Lf (mt c = some ⟨F, 2, ms, []⟩)) (ha : Lf (argAll ms [o, p] η2 = some (xs, η3))) (hF : F xs = some (.ok (.sh (.bl b)) θ)) (hb : Lf (backAll [o, p] θ η3 = η4)) : fNeO mt fa fb η = some (.ok (.pend (.sh (.bl (!b)))) η4) := by
  unfold fNeO
  rw [h1, bindR_some, h2, bindR_some]
  simp only [hc.h, hc2.h, if_true, hi.h, dv2_nil]
  rw [callR_b ha.h hF, hb.h]
  rfl
theorem e_eqO {mt : Nat → Option Fi} (h1 : fa η = some (.ok o η1)) (h2 : fb η1 = some (.ok p η2)) (hc : Lf (o.cls η2 = some (c, fs))) (hc2 : Lf (p.cls η2 = some (c, gs)))
    (hi : Lf (mt c = some ⟨F, 2, ms, []⟩)) (ha : Lf (argAll ms [o, p] η2 = some (xs, η3))) (hF : F xs = some (.ok (.sh (.bl b)) θ)) (hb : Lf (backAll [o, p] θ η3 = η4)) : fEqO mt fa fb η = some (.ok (.pend (.sh (.bl b))) η4) := by
  unfold fEqO
  rw [h1, bindR_some, h2, bindR_some]
  simp only [hc.h, hc2.h, if_true, hi.h, dv2_nil]
  rw [callR_b ha.h hF, hb.h]
  rfl
theorem e_eqN {mt : Nat → Option Fi} (h1 : fa η = some (.ok o η1)) (h2 : fb η1 = some (.ok (.pend (.sh .non)) η2)) (hc : Lf (o.cls η2 = some (c, fs))) (hi : Lf (mt c = some ⟨F, 2, ms, []⟩))
    (ha : Lf (argAll ms [o, .pend (.sh .non)] η2 = some (xs, η3))) (hF : F xs = some (.ok (.sh (.bl b)) θ)) (hb : Lf (backAll [o, .pend (.sh .non)] θ η3 = η4)) : fEqN mt fa fb η = some (.ok (.pend (.sh (.bl b))) η4) := by
  unfold fEqN
  rw [h1, bindR_some, h2, bindR_some]
  simp only [hc.h, hi.h, dv2_nil]
  rw [callR_b ha.h hF, hb.h]
  rfl
theorem e_eqTu {mt : Nat → Option Fi} {xd : List D} (h1 : fa η = some (.ok o η1)) (h2 : fb η1 = some (.ok p η2)) (ht : Lf (tupD o = some xd)) (hc : Lf (p.cls η2 = some (c, fs))) (hi : Lf (mt c = some ⟨F, 2, ms, []⟩))
    (ha : Lf (argAll ms [p, .pend (.sh (.tup xd))] η2 = some (xs, η3))) (hF : F xs = some (.ok (.sh (.bl b)) θ)) (hb : Lf (backAll [p, .pend (.sh (.tup xd))] θ η3 = η4)) : fEqTu mt fa fb η = some (.ok (.pend (.sh (.bl b))) η4) := by
  unfold fEqTu
  rw [h1, bindR_some, h2, bindR_some]
  simp only [ht.h, hc.h, hi.h, dv2_nil]
  rw [callR_b ha.h hF, hb.h]
  rfl
theorem e_par3 (h : g η = some (.ok os η1)) (h2 : Lf (escAll os η1 = some ([x, y, z], η2))) (h3 : Lf (decide (i < η2.length ∧ j < η2.length ∧ l < η2.length) = true)) (h4 : Lf (((η2.set i (some x)).set j (some y)).set l (some z) = η3)) : fPar3 i j l g η = some (.ok .next η3) := by
  unfold fPar3
  rw [h, bindR_some]
  simp only [h2.h]
  rw [if_pos (of_decide_eq_true h3.h), h4.h]
  rfl
theorem e_chain {c1 c2 : Int → Int → Bool} {i j l : Int} (h1 : fa η = some (.ok o η1)) (h2 : fb η1 = some (.ok p η2)) (h3 : Lf (prepAll [o, p] η2 = some ([.int i, .int j], η3))) (hc : c1 i j = true) (h4 : fc η3 = some (.ok q η4)) (h5 : Lf (prepAll [q] η4 = some ([.int l], η5))) : fChain fa fb fc c1 c2 η = some (.ok (.pend (.sh (.bl (c2 j l)))) η5) := by
  unfold fChain
  rw [h1, bindR_some, h2, bindR_some]
  simp only [h3.h, hc, if_true, h4, bindR_some, h5.h, okR]
end
end Wp
end
section
set_option Elab.async false
set_option linter.all false
set_option maxRecDepth 100000
set_option maxHeartbeats 0
namespace L43
open PySem PySem.Spec PyProof.Rows L2 Wp
def bt_Stair : List (String × Bool) := [("NoneType", false), ("bool", false), ("int", false), ("str", false), ("tuple", false), ("list", false), ("dict", false)]
def ct_Stair : List (Nat × Bool) := [(0, true)]
def cs_Stair : List (Str × Bool) := [("Stair", true)]
def bt_bool : List (String × Bool) := [("NoneType", false), ("bool", true), ("int", false), ("str", false), ("tuple", false), ("list", false), ("dict", false)]
def ct_bool : List (Nat × Bool) := [(0, false)]
def cs_bool : List (Str × Bool) := [("Stair", false)]
def bt_int : List (String × Bool) := [("NoneType", false), ("bool", true), ("int", true), ("str", false), ("tuple", false), ("list", false), ("dict", false)]
def ct_int : List (Nat × Bool) := [(0, false)]
def cs_int : List (Str × Bool) := [("Stair", false)]
def bt_list : List (String × Bool) := [("NoneType", false), ("bool", false), ("int", false), ("str", false), ("tuple", false), ("list", true), ("dict", false)]
def ct_list : List (Nat × Bool) := [(0, false)]
def cs_list : List (Str × Bool) := [("Stair", false)]
def fc_base : Nat → Bool := fun c => decide (c < 1)
def pt_base : Nat → Option Fi := fun _ => none
def fc_turns : Nat → Bool := fun c => decide (c < 1)
def pt_turns : Nat → Option Fi := fun _ => none
def F__law_purse : FF := semF 2 3 [0, 1] true
    (fSeq (fSet 2 (fn (fCons (fSlice (fVar 0) (some (fVar 1)) (some (f2 (fVar 1) (fLit (.int 1)) (p2 gAdd)))) fNil) (p1 gSum)))
      (fRet (fDisp .ol (fCons (f2 (fn (fCons (f2 (fVar 2) (f2 (fLit (.int 10)) (fLit (.int 18)) (p2 gPow)) (p2 gSub)) (fCons (fLit (.int 0)) fNil)) (p2 gMx2)) (f2 (f2 (fLit (.int 10)) (fLit (.int 60)) (p2 gPow)) (fLit (.int 8)) (p2 gPow)) (p2 gMod)) (fCons (f2 (fVar 2) (fLit (.int 2147483629)) (p2 gMod)) (fCons (fLit (.int 0)) (fCons (fVar 1) fNil)))))))
def i__law_purse : Fi := ⟨F__law_purse, 2, [false, false], []⟩
def F__law_purses : FF := semF 2 3 [0, 1] true
    (fRet (fLc 3 [2] (fRng1 (fCons (fn (fCons (fLit (.int 1)) (fCons (fn (fCons (fVar 1) (fCons (fn (fCons (fVar 0) fNil) (p1 gLen)) fNil)) (p2 gMn2)) fNil)) (p2 gMx2)) fNil)) (gNm 2) fYes (fCallN i__law_purse 2 (fCons (fVar 0) (fCons (fVar 2) fNil)))))
def i__law_purses : Fi := ⟨F__law_purses, 2, [false, false], []⟩
def F__law_mixed : FF := semF 3 4 [0, 1, 2] false
    (fSeq (fSet 3 (f2 (f2 (fVar 0) (fLit (.int 69069)) (p2 gMul)) (f2 (f2 (fLit (.int 104729)) (fVar 1) (p2 gMul)) (fVar 1) (p2 gMul)) (p2 gAdd)))
      (fSeq (fSet 3 (f2 (f2 (f2 (fVar 3) (f2 (fLit (.int 7919)) (fVar 2) (p2 gMul)) (p2 gAdd)) (fVar 1) (p2 gAdd)) (fLit (.int 2147483647)) (p2 gMod)))
      (fSeq (fSet 3 (f2 (f2 (f2 (fVar 3) (fVar 3) (p2 gMul)) (fLit (.int 40503)) (p2 gAdd)) (fLit (.int 2147483629)) (p2 gMod)))
      (fRet (f2 (f2 (fVar 3) (fLit (.int 48271)) (p2 gMul)) (fLit (.int 2147483587)) (p2 gMod))))))
def i__law_mixed : Fi := ⟨F__law_mixed, 3, [false, false, false], []⟩
def F__law_draw : FF := semF 2 5 [0, 1] false
    (fSeq (fIf (fBl (f2 (f2 (fVar 0) (fLit (.int 0)) (p2 gSub2)) (fLit (.int 0)) (p2 (gCmp (cmpF .Gt))))) (fSeq (fSet 2 (f2 (f2 (fVar 0) (fLit (.int 0)) (p2 gSub2)) (fVar 1) (p2 gMod)))
      (fSeq (fSetI 0 (f2 (f2 (fVar 0) (fLit (.int 0)) (p2 gSub2)) (fVar 1) (p2 gDiv)) (fLit (.int 0)))
      (fRet (fVar 2)))) fNext)
      (fSeq (fSet 3 (fLit (.int 0)))
      (fSeq (fFor (gNm 4) (fSeq (fSetI 0 (f2 (f2 (fVar 0) (fLit (.int 2)) (p2 gSub2)) (fLit (.int 1)) (p2 gAdd)) (fLit (.int 2)))
      (fSet 3 (f2 (f2 (fVar 3) (fLit (.int 2147483587)) (p2 gMul)) (fCallN i__law_mixed 3 (fCons (f2 (fVar 0) (fLit (.int 1)) (p2 gSub2)) (fCons (f2 (fVar 0) (fLit (.int 2)) (p2 gSub2)) (fCons (f2 (fVar 0) (fLit (.int 3)) (p2 gSub2)) fNil)))) (p2 gAdd)))) (fRng1 (fCons (f2 (fLit (.int 1)) (f2 (f1 (fVar 1) (p1 gBits)) (fLit (.int 28)) (p2 gDiv)) (p2 gAdd)) fNil)))
      (fRet (f2 (fVar 3) (fVar 1) (p2 gMod))))))
def i__law_draw : Fi := ⟨F__law_draw, 2, [true, false], []⟩
def F__law_one_of : FF := semF 2 2 [0, 1] false
    (fRet (f2 (fVar 1) (fCallN i__law_draw 2 (fCons (fVar 0) (fCons (fn (fCons (fVar 1) fNil) (p1 gLen)) fNil))) (p2 gSub2)))
def i__law_one_of : Fi := ⟨F__law_one_of, 2, [true, false], []⟩
def F__law_corners : FF := semF 2 5 [0, 1] true
    (fSeq (fPar 2 3 (fCons (fDisp .ol fNil) (fCons (fCallN i__law_one_of 2 (fCons (fVar 0) (fCons (fDisp .ol (fCons (fLit (.int 0)) (fCons (fLit (.int 0)) (fCons (fLit (.int 1)) (fCons (fLit (.int 3)) fNil))))) fNil))) fNil)))
      (fSeq (fFor (gNm 4) (fSeq (fExpr (fApp 2 (fVar 3)))
      (fSet 3 (f2 (f2 (fVar 3) (fLit (.int 1)) (p2 gAdd)) (fCallN i__law_draw 2 (fCons (fVar 0) (fCons (fLit (.int 5)) fNil))) (p2 gAdd)))) (fRng1 (fCons (fCallN i__law_draw 2 (fCons (fVar 0) (fCons (f2 (fVar 1) (fLit (.int 1)) (p2 gAdd)) fNil))) fNil)))
      (fRetM (fVar 2))))
def i__law_corners : Fi := ⟨F__law_corners, 2, [true, false], []⟩
def F__law_stair : FF := semF 2 2 [0, 1] true
    (fRet (fDisp .ot (fCons (f2 (fCallN i__law_draw 2 (fCons (fVar 0) (fCons (fLit (.int 9)) fNil))) (fCallN i__law_draw 2 (fCons (fVar 0) (fCons (fLit (.int 5)) fNil))) (p2 gSub)) (fCons (fCallN i__law_corners 2 (fCons (fVar 0) (fCons (fVar 1) fNil))) fNil))))
def i__law_stair : Fi := ⟨F__law_stair, 2, [true, false], []⟩
def F_is_whole : FF := semF 1 1 [0] false
    (fRet (fAndV (f1 (fVar 0) (p1 (gIsi bt_int ct_int))) (fNotV (f1 (fVar 0) (p1 (gIsi bt_bool ct_bool))))))
def i_is_whole : Fi := ⟨F_is_whole, 1, [false], []⟩
def F_check_whole : FF := semF 1 1 [0] false
    (fIf (fNotT (fTru (fCallN i_is_whole 1 (fCons (fVar 0) fNil)))) fNever fNext)
def i_check_whole : Fi := ⟨F_check_whole, 1, [false], []⟩
def F_is_count : FF := semF 1 1 [0] false
    (fRet (fAndV (fCallN i_is_whole 1 (fCons (fVar 0) fNil)) (f2 (fVar 0) (fLit (.int 0)) (p2 (gCmp (cmpF .GtE))))))
def i_is_count : Fi := ⟨F_is_count, 1, [false], []⟩
def F_are_corners : FF := semF 1 3 [0] false
    (fSeq (fIf (fOrT (fNotT (fTru (f1 (fVar 0) (p1 (gIsi bt_list ct_list))))) (fBl (f2 (fLc 3 [1] (fSeqI (fVar 0)) (gNm 1) (fNotT (fTru (fCallN i_is_count 1 (fCons (fVar 1) fNil)))) (fVar 1)) (fDisp .ol fNil) (p2 gNe)))) (fRet (fLit (.bl false))) fNext)
      (fRet (f2 (fLc 3 [2] (fRng2 (fCons (fLit (.int 1)) (fCons (fn (fCons (fVar 0) fNil) (p1 gLen)) fNil))) (gNm 2) (fBl (f2 (f2 (fVar 0) (fVar 2) (p2 gSub2)) (f2 (fVar 0) (f2 (fVar 2) (fLit (.int 1)) (p2 gSub)) (p2 gSub2)) (p2 (gCmp (cmpF .LtE))))) (fVar 2)) (fDisp .ol fNil) (p2 gEq))))
def i_are_corners : Fi := ⟨F_are_corners, 1, [false], []⟩
def F_Stair_init : FF := semF 3 3 [0, 1, 2] false
    (fSeq (fExpr (fCallN i_check_whole 1 (fCons (fVar 1) fNil)))
      (fSeq (fIf (fNotT (fPureT (fTru (fCallN i_are_corners 1 (fCons (fVar 2) fNil))))) fNever fNext)
      (fSeq (fSetF fc_base 0 "base" (fVar 1))
      (fSetF fc_turns 0 "turns" (fn (fCons (fVar 2) fNil) (p1 gTuple))))))
def i_Stair_init : Fi := ⟨F_Stair_init, 3, [true, false, true], []⟩
def F_Stair_eq : FF := semF 2 2 [0, 1] false
    (fRet (fAndV (f1 (fVar 1) (p1 (gIsi bt_Stair ct_Stair))) (fAndV (f2 (fAttr fc_base pt_base "base" (fVar 0)) (fAttr fc_base pt_base "base" (fVar 1)) (p2 gEq)) (f2 (fAttr fc_turns pt_turns "turns" (fVar 0)) (fAttr fc_turns pt_turns "turns" (fVar 1)) (p2 gEq)))))
def i_Stair_eq : Fi := ⟨F_Stair_eq, 2, [false, false], []⟩
def eqT : Nat → Option Fi
  | 0 => some i_Stair_eq
  | _ => none
def F__law_near_right : FF := semF 2 5 [0, 1] false
    (fSeq (fSet 2 (fMake 0 2 i_Stair_init (fCons (fVar 0) (fCons (fVar 1) fNil))))
      (fSeq (fSet 3 (fDisp .ol (fCons (fDisp .ot (fCons (f2 (fVar 0) (fLit (.int 1)) (p2 gAdd)) (fCons (fVar 1) fNil))) (fCons (fDisp .ot (fCons (fVar 0) (fCons (fSlice (fVar 1) none (some (f1 (fLit (.int 1)) (p1 gNeg)))) fNil))) (fCons (fDisp .ot (fCons (fVar 0) (fCons (fSlice (fVar 1) (some (fLit (.int 1))) none) fNil))) fNil)))))
      (fSeq (fSet 3 (f2 (fVar 3) (fDisp .ol (fCons (fDisp .ot (fCons (fVar 0) (fCons (f2 (fVar 1) (fDisp .ol (fCons (f2 (f2 (fVar 1) (f1 (fLit (.int 1)) (p1 gNeg)) (p2 gSub2)) (fLit (.int 1)) (p2 gAdd)) fNil)) (p2 gAdd)) fNil))) fNil)) (p2 gAdd)))
      (fSeq (fExpr (fApp 3 (fDisp .ot (fCons (fVar 0) (fCons (f2 (fSlice (fVar 1) none (some (f1 (fLit (.int 1)) (p1 gNeg)))) (fDisp .ol (fCons (f2 (f2 (fVar 1) (f1 (fLit (.int 1)) (p1 gNeg)) (p2 gSub2)) (fLit (.int 1)) (p2 gAdd)) fNil)) (p2 gAdd)) fNil)))))
      (fRet (f2 (fLc 5 [4] (fSeqI (fVar 3)) (gNm 4) (fOrT (fBl (fEqO eqT (fVar 2) (fMake 0 2 i_Stair_init (fCons (f2 (fVar 4) (fLit (.int 0)) (p2 gSub2)) (fCons (f2 (fVar 4) (fLit (.int 1)) (p2 gSub2)) fNil))))) (fNotT (fBl (fNeO eqT (fVar 2) (fMake 0 2 i_Stair_init (fCons (f2 (fVar 4) (fLit (.int 0)) (p2 gSub2)) (fCons (f2 (fVar 4) (fLit (.int 1)) (p2 gSub2)) fNil))))))) (fVar 4)) (fDisp .ol fNil) (p2 gEq)))))))
def i__law_near_right : Fi := ⟨F__law_near_right, 2, [false, false], []⟩
def F__law_steps : FF := semF 3 6 [0, 1, 2] false
    (fSeq (fSet 3 (fDisp .ol (fCons (fVar 0) fNil)))
      (fSeq (fFor (gNm 4) (fExpr (fApp 3 (fPure (f2 (f2 (fVar 3) (f1 (fLit (.int 1)) (p1 gNeg)) (p2 gSub2)) (f2 (fn (fCons (fLc 6 [5] (fSeqI (fVar 1)) (gNm 5) (fBl (f2 (fVar 5) (fVar 4) (p2 (gCmp (cmpF .LtE))))) (fVar 5)) fNil) (p1 gLen)) (fLit (.int 2)) (p2 gMod)) (p2 gAdd))))) (fRng1 (fCons (fVar 2) fNil)))
      (fRet (fVar 3))))
def i__law_steps : Fi := ⟨F__law_steps, 3, [false, true, false], []⟩
def F_Stair_begin : FF := semF 1 1 [0] false
    (fRet (fAttr fc_base pt_base "base" (fVar 0)))
def i_Stair_begin : Fi := ⟨F_Stair_begin, 1, [false], []⟩
def pt_begin : Nat → Option Fi
  | 0 => some i_Stair_begin
  | _ => none
def F_Stair_corners : FF := semF 1 1 [0] true
    (fRet (fn (fCons (fAttr fc_turns pt_turns "turns" (fVar 0)) fNil) (p1 gList)))
def i_Stair_corners : Fi := ⟨F_Stair_corners, 1, [false], []⟩
def pt_corners : Nat → Option Fi
  | 0 => some i_Stair_corners
  | _ => none
def F_check_count : FF := semF 3 3 [0, 1, 2] false
    (fIf (fOrT (fNotT (fTru (fCallN i_is_count 1 (fCons (fVar 0) fNil)))) (fOrT (fBl (f2 (fVar 0) (fVar 1) (p2 (gCmp (cmpF .Lt))))) (fAndT (fBl (f2 (fVar 2) (fLit .non) (p2 (gIsN true)))) (fBl (f2 (fVar 0) (fVar 2) (p2 (gCmp (cmpF .Gt)))))))) fNever fNext)
def i_check_count : Fi := ⟨F_check_count, 3, [false, false, false], [.int 0, .non]⟩
def F_Stair_rises : FF := semF 1 4 [0] false
    (fSeq (fSet 1 (fDisp .ol fNil))
      (fSeq (fFor (gNm 2) (fSeq (fSet 3 (fn (fCons (fSlice (fAttr fc_turns pt_turns "turns" (fVar 0)) (some (f2 (fVar 2) (fLit (.int 1)) (p2 gAdd))) (some (f2 (fVar 2) (fLit (.int 2)) (p2 gAdd)))) fNil) (p1 gList)))
      (fExpr (fApp 1 (fDisp .ot (fCons (f2 (fAttr fc_turns pt_turns "turns" (fVar 0)) (fVar 2) (p2 gSub2)) (fCons (fIte (fBl (f2 (fVar 3) (fDisp .ol fNil) (p2 gNe))) (f2 (fVar 3) (fLit (.int 0)) (p2 gSub2)) (fLit .non)) fNil)))))) (fRng3 (fCons (fLit (.int 0)) (fCons (fn (fCons (fAttr fc_turns pt_turns "turns" (fVar 0)) fNil) (p1 gLen)) (fCons (fLit (.int 2)) fNil)))))
      (fRet (fVar 1))))
def i_Stair_rises : Fi := ⟨F_Stair_rises, 1, [false], []⟩
def mt_rises : Nat → Option Fi
  | 0 => some i_Stair_rises
  | _ => none
def F_Stair_height : FF := semF 2 6 [0, 1] false
    (fSeq (fSet 2 (fAttr fc_base pt_base "base" (fVar 0)))
      (fSeq (fFor (gTp (gsCons (gNm 3) (gsCons (gNm 4) gsNil))) (fSeq (fSet 5 (fIte (fBl (f2 (fVar 4) (fLit .non) (p2 (gIsN false)))) (fVar 1) (fn (fCons (fVar 1) (fCons (fVar 4) fNil)) (p2 gMn2))))
      (fSet 2 (f2 (fVar 2) (fn (fCons (f2 (fVar 5) (fVar 3) (p2 gSub)) (fCons (fLit (.int 0)) fNil)) (p2 gMx2)) (p2 gAdd)))) (fSeqI (fMeth mt_rises "rises" 0 (fVar 0) fNil)))
      (fRet (fVar 2))))
def i_Stair_height : Fi := ⟨F_Stair_height, 2, [false, false], []⟩
def mt_height : Nat → Option Fi
  | 0 => some i_Stair_height
  | _ => none
def F_Stair_value : FF := semF 2 2 [0, 1] false
    (fSeq (fExpr (fCallN i_check_count 1 (fCons (fVar 1) fNil)))
      (fRet (fMeth mt_height "height" 1 (fVar 0) (fCons (fVar 1) fNil))))
def i_Stair_value : Fi := ⟨F_Stair_value, 2, [false, false], []⟩
def mt_value : Nat → Option Fi
  | 0 => some i_Stair_value
  | _ => none
def F_Stair_end : FF := semF 1 1 [0] false
    (fSeq (fIf (fBl (f2 (f2 (fn (fCons (fAttr fc_turns pt_turns "turns" (fVar 0)) fNil) (p1 gLen)) (fLit (.int 2)) (p2 gMod)) (fLit (.int 1)) (p2 gEq))) (fRet (fLit .non)) fNext)
      (fRet (fMeth mt_height "height" 1 (fVar 0) (fCons (fn (fCons (f2 (fDisp .ol (fCons (fLit (.int 0)) fNil)) (fn (fCons (fAttr fc_turns pt_turns "turns" (fVar 0)) fNil) (p1 gList)) (p2 gAdd)) fNil) (p1 gMxL)) fNil))))
def i_Stair_end : Fi := ⟨F_Stair_end, 1, [false], []⟩
def mt_end : Nat → Option Fi
  | 0 => some i_Stair_end
  | _ => none
def F_Stair_last_at : FF := semF 2 5 [0, 1] false
    (fSeq (fIf (fBl (f2 (fAttr fc_base pt_base "base" (fVar 0)) (fVar 1) (p2 (gCmp (cmpF .Gt))))) (fRet (f1 (fLit (.int 1)) (p1 gNeg))) fNext)
      (fSeq (fSet 2 (fAttr fc_base pt_base "base" (fVar 0)))
      (fSeq (fFor (gTp (gsCons (gNm 3) (gsCons (gNm 4) gsNil))) (fSeq (fIf (fOrT (fBl (f2 (fVar 4) (fLit .non) (p2 (gIsN false)))) (fBl (f2 (f2 (f2 (fVar 2) (fVar 4) (p2 gAdd)) (fVar 3) (p2 gSub)) (fVar 1) (p2 (gCmp (cmpF .Gt)))))) (fRet (f2 (f2 (fVar 3) (fVar 1) (p2 gAdd)) (fVar 2) (p2 gSub))) fNext)
      (fSet 2 (f2 (f2 (fVar 2) (fVar 4) (p2 gAdd)) (fVar 3) (p2 gSub)))) (fSeqI (fMeth mt_rises "rises" 0 (fVar 0) fNil)))
      (fRet (fLit .non)))))
def i_Stair_last_at : Fi := ⟨F_Stair_last_at, 2, [false, false], []⟩
def mt_last_at : Nat → Option Fi
  | 0 => some i_Stair_last_at
  | _ => none
def F_Stair_undone : FF := semF 2 2 [0, 1] false
    (fSeq (fExpr (fCallN i_check_whole 1 (fCons (fVar 1) fNil)))
      (fRet (fMeth mt_last_at "last_at" 1 (fVar 0) (fCons (fVar 1) fNil))))
def i_Stair_undone : Fi := ⟨F_Stair_undone, 2, [false, false], []⟩
def mt_undone : Nat → Option Fi
  | 0 => some i_Stair_undone
  | _ => none
def F__law_undone : FF := semF 3 5 [0, 1, 2] false
    (fSeq (fSet 3 (fLc 5 [4] (fRng1 (fCons (fn (fCons (fVar 0) fNil) (p1 gLen)) fNil)) (gNm 4) (fBl (f2 (f2 (fVar 0) (fVar 4) (p2 gSub2)) (fVar 1) (p2 (gCmp (cmpF .LtE))))) (fVar 4)))
      (fSeq (fIf (fBl (f2 (fVar 3) (fDisp .ol fNil) (p2 gEq))) (fRet (f1 (fLit (.int 1)) (p1 gNeg))) fNext)
      (fSeq (fIf (fBl (f2 (f2 (fVar 3) (f1 (fLit (.int 1)) (p1 gNeg)) (p2 gSub2)) (f2 (fn (fCons (fVar 0) fNil) (p1 gLen)) (fLit (.int 1)) (p2 gSub)) (p2 (gCmp (cmpF .Lt))))) (fRet (f2 (fVar 3) (f1 (fLit (.int 1)) (p1 gNeg)) (p2 gSub2))) fNext)
      (fRet (fIte (fTru (fVar 2)) (f2 (f2 (f2 (fVar 3) (f1 (fLit (.int 1)) (p1 gNeg)) (p2 gSub2)) (fVar 1) (p2 gAdd)) (f2 (fVar 0) (f1 (fLit (.int 1)) (p1 gNeg)) (p2 gSub2)) (p2 gSub)) (fLit .non))))))
def i__law_undone : Fi := ⟨F__law_undone, 3, [false, false, false], []⟩
def F_moved_stair : FF := semF 2 2 [0, 1] false
    (fRet (fMake 0 2 i_Stair_init (fCons (f2 (fAttr fc_base pt_base "base" (fVar 0)) (fVar 1) (p2 gAdd)) (fCons (fn (fCons (fAttr fc_turns pt_turns "turns" (fVar 0)) fNil) (p1 gList)) fNil))))
def i_moved_stair : Fi := ⟨F_moved_stair, 2, [false, false], []⟩
def F_Stair_shifted : FF := semF 2 2 [0, 1] false
    (fSeq (fExpr (fCallN i_check_whole 1 (fCons (fVar 1) fNil)))
      (fRet (fCallN i_moved_stair 2 (fCons (fVar 0) (fCons (fVar 1) fNil)))))
def i_Stair_shifted : Fi := ⟨F_Stair_shifted, 2, [false, false], []⟩
def mt_shifted : Nat → Option Fi
  | 0 => some i_Stair_shifted
  | _ => none
def F__law_right : FF := semF 3 12 [0, 1, 2] false
    (fSeq (fSet 3 (fn (fCons (fVar 2) fNil) (p1 gList)))
      (fSeq (fAsg (gTp (gsCons (gNm 4) (gsCons (gNm 5) gsNil))) (fDisp .ot (fCons (fMake 0 2 i_Stair_init (fCons (fVar 1) (fCons (fVar 2) fNil))) (fCons (fCallN i__law_steps 3 (fCons (fVar 1) (fCons (fVar 2) (fCons (fLit (.int 40)) fNil)))) fNil))))
      (fSeq (fExpr (fApp 2 (fLit (.int 99))))
      (fSeq (fIf (fBl (f2 (fn (fCons (fDisp .ol (fCons (fAttr (fun _ => false) pt_begin "begin" (fVar 4)) (fCons (fAttr (fun _ => false) pt_corners "corners" (fVar 4)) fNil))) fNil) (p1 gRepr)) (fn (fCons (fDisp .ol (fCons (fVar 1) (fCons (fVar 3) fNil))) fNil) (p1 gRepr)) (p2 gNe))) (fRet (fLit (.bl false))) fNext)
      (fSeq (fExpr (fAppT (fAttr (fun _ => false) pt_corners "corners" (fVar 4)) (fLit (.str "more"))))
      (fSeq (fSet 6 (f2 (f2 (fn (fCons (fVar 3) fNil) (p1 gLen)) (fLit (.int 2)) (p2 gMod)) (fLit (.int 1)) (p2 gEq)))
      (fSeq (fIf (fOrT (fBl (f2 (fLc 12 [11] (fRng1 (fCons (fLit (.int 41)) fNil)) (gNm 11) fYes (fMeth mt_value "value" 1 (fVar 4) (fCons (fVar 11) fNil))) (fVar 5) (p2 gNe))) (fBl (f2 (fAttr (fun _ => false) pt_corners "corners" (fVar 4)) (fVar 3) (p2 gNe)))) (fRet (fLit (.bl false))) fNext)
      (fSeq (fIf (fBl (f2 (fn (fCons (fMeth mt_end "end" 0 (fVar 4) fNil) fNil) (p1 gRepr)) (fn (fCons (fIte (fTru (fVar 6)) (fLit .non) (f2 (fVar 5) (f1 (fLit (.int 1)) (p1 gNeg)) (p2 gSub2))) fNil) (p1 gRepr)) (p2 gNe))) (fRet (fLit (.bl false))) fNext)
      (fSeq (fFor (gNm 7) (fIf (fBl (f2 (fn (fCons (fMeth mt_undone "undone" 1 (fVar 4) (fCons (fVar 7) fNil)) fNil) (p1 gRepr)) (fn (fCons (fCallN i__law_undone 3 (fCons (fVar 5) (fCons (fVar 7) (fCons (fVar 6) fNil)))) fNil) (p1 gRepr)) (p2 gNe))) (fRet (fLit (.bl false))) fNext) (fSeqI (fDisp .ol (fCons (f2 (fVar 1) (fLit (.int 1)) (p2 gSub)) (fCons (fVar 1) (fCons (f2 (fVar 1) (fLit (.int 1)) (p2 gAdd)) (fCons (f2 (f2 (fVar 5) (f1 (fLit (.int 1)) (p1 gNeg)) (p2 gSub2)) (fLit (.int 1)) (p2 gSub)) (fCons (f2 (fVar 5) (f1 (fLit (.int 1)) (p1 gNeg)) (p2 gSub2)) (fCons (f2 (f2 (fVar 5) (f1 (fLit (.int 1)) (p1 gNeg)) (p2 gSub2)) (fLit (.int 5)) (p2 gAdd)) (fCons (f2 (fVar 1) (fCallN i__law_draw 2 (fCons (fVar 0) (fCons (fLit (.int 9)) fNil))) (p2 gAdd)) fNil))))))))))
      (fSeq (fSet 8 (fCallN i__law_one_of 2 (fCons (fVar 0) (fCons (fDisp .ol (fCons (fLit (.int 0)) (fCons (fLit (.int 3)) (fCons (f1 (fLit (.int 4)) (p1 gNeg)) (fCons (f2 (fLit (.int 10)) (fLit (.int 20)) (p2 gPow)) fNil))))) fNil))))
      (fSeq (fSet 9 (fMeth mt_shifted "shifted" 1 (fVar 4) (fCons (fVar 8) fNil)))
      (fSeq (fIf (fOrT (fBl (fNeO eqT (fVar 9) (fMake 0 2 i_Stair_init (fCons (f2 (fVar 1) (fVar 8) (p2 gAdd)) (fCons (fVar 3) fNil))))) (fOrT (fBl (f2 (fEqO eqT (fVar 9) (fVar 4)) (f2 (fVar 8) (fLit (.int 0)) (p2 gEq)) (p2 gNe))) (fBl (f2 (fAttr (fun _ => false) pt_begin "begin" (fVar 4)) (fVar 1) (p2 gNe))))) (fRet (fLit (.bl false))) fNext)
      (fSeq (fSet 10 (f2 (f2 (fLit (.int 10)) (fLit (.int 29)) (p2 gPow)) (fCallN i__law_draw 2 (fCons (fVar 0) (fCons (fLit (.int 9)) fNil))) (p2 gAdd)))
      (fRet (f2 (fMeth mt_value "value" 1 (fVar 4) (fCons (fVar 10) fNil)) (fIte (fTru (fVar 6)) (f2 (f2 (f2 (fVar 5) (f1 (fLit (.int 1)) (p1 gNeg)) (p2 gSub2)) (fVar 10) (p2 gAdd)) (fLit (.int 40)) (p2 gSub)) (f2 (fVar 5) (f1 (fLit (.int 1)) (p1 gNeg)) (p2 gSub2))) (p2 gEq))))))))))))))))
def i__law_right : Fi := ⟨F__law_right, 3, [true, false, true], []⟩
def F__law_great_right : FF := semF 1 8 [0] false
    (fSeq (fPar 1 2 (fCons (fCallN i__law_draw 2 (fCons (fVar 0) (fCons (f2 (fLit (.int 10)) (fLit (.int 25)) (p2 gPow)) fNil))) (fCons (f2 (fLit (.int 1)) (fCallN i__law_draw 2 (fCons (fVar 0) (fCons (f2 (fLit (.int 10)) (fLit (.int 25)) (p2 gPow)) fNil))) (p2 gAdd)) fNil)))
      (fSeq (fSet 3 (fMake 0 2 i_Stair_init (fCons (f2 (fLit (.int 0)) (fVar 1) (p2 gSub)) (fCons (fDisp .ol (fCons (fVar 1) (fCons (f2 (fVar 1) (fVar 2) (p2 gAdd)) (fCons (f2 (f2 (fVar 1) (fVar 2) (p2 gAdd)) (fVar 2) (p2 gAdd)) fNil)))) fNil))))
      (fSeq (fSet 4 (fDisp .ol (fCons (fVar 1) (fCons (f2 (fVar 1) (fVar 2) (p2 gAdd)) (fCons (f2 (f2 (fVar 1) (fVar 2) (p2 gAdd)) (fVar 2) (p2 gAdd)) (fCons (f2 (f2 (fLit (.int 2)) (fVar 1) (p2 gMul)) (f2 (fLit (.int 2)) (fVar 2) (p2 gMul)) (p2 gAdd)) fNil))))))
      (fSeq (fIf (fBl (f2 (fLc 8 [6] (fSeqI (fVar 4)) (gNm 6) fYes (fMeth mt_value "value" 1 (fVar 3) (fCons (fVar 6) fNil))) (fDisp .ol (fCons (f2 (fLit (.int 0)) (fVar 1) (p2 gSub)) (fCons (f2 (fVar 2) (fVar 1) (p2 gSub)) (fCons (f2 (fVar 2) (fVar 1) (p2 gSub)) (fCons (fVar 2) fNil))))) (p2 gNe))) (fRet (fLit (.bl false))) fNext)
      (fSeq (fSet 5 (fDisp .ol (fCons (f1 (fLit (.int 1)) (p1 gNeg)) (fCons (fVar 1) (fCons (f2 (fVar 1) (f2 (fLit (.int 2)) (fVar 2) (p2 gMul)) (p2 gAdd)) (fCons (f2 (f2 (fLit (.int 2)) (fVar 1) (p2 gMul)) (f2 (fLit (.int 2)) (fVar 2) (p2 gMul)) (p2 gAdd)) fNil))))))
      (fSeq (fIf (fBl (f2 (fLc 8 [7] (fSeqI (fDisp .ol (fCons (f2 (f2 (fLit (.int 0)) (fVar 1) (p2 gSub)) (fLit (.int 1)) (p2 gSub)) (fCons (f2 (fLit (.int 0)) (fVar 1) (p2 gSub)) (fCons (f2 (fVar 2) (fVar 1) (p2 gSub)) (fCons (fVar 2) fNil)))))) (gNm 7) fYes (fMeth mt_undone "undone" 1 (fVar 3) (fCons (fVar 7) fNil))) (fVar 5) (p2 gNe))) (fRet (fLit (.bl false))) fNext)
      (fRet (fAndV (f2 (fMeth mt_end "end" 0 (fVar 3) fNil) (fLit .non) (p2 (gIsN false))) (f2 (f2 (fVar 1) (fLit (.int 5)) (p2 gAdd)) (fMeth mt_end "end" 0 (fMake 0 2 i_Stair_init (fCons (fVar 1) (fCons (fDisp .ol (fCons (fVar 2) (fCons (f2 (fVar 2) (fLit (.int 5)) (p2 gAdd)) fNil))) fNil))) fNil) (p2 gEq))))))))))
def i__law_great_right : Fi := ⟨F__law_great_right, 1, [true], []⟩
def F_law : FF := semF 1 5 [0] false
    (fSeq (fFor (gNm 1) (fSeq (fAsg (gTp (gsCons (gNm 2) (gsCons (gNm 3) gsNil))) (fCallN i__law_stair 2 (fCons (fVar 1) (fCons (fLit (.int 7)) fNil))))
      (fSeq (fSet 4 (fCallN i__law_stair 2 (fCons (fVar 1) (fCons (fLit (.int 3)) fNil))))
      (fSeq (fIf (fPureT (fBl (f2 (f2 (fDisp .ot (fCons (fVar 2) (fCons (fVar 3) fNil))) (fVar 4) (p2 gEq)) (fEqO eqT (fMake 0 2 i_Stair_init (fCons (fVar 2) (fCons (fVar 3) fNil))) (fMake 0 2 i_Stair_init (fCons (f2 (fVar 4) (fLit (.int 0)) (p2 gSub2)) (fCons (f2 (fVar 4) (fLit (.int 1)) (p2 gSub2)) fNil)))) (p2 gNe)))) (fRet (fLit (.bl false))) fNext)
      (fSeq (fIf (fPureT (fBl (f2 (fNeO eqT (fMake 0 2 i_Stair_init (fCons (fVar 2) (fCons (fVar 3) fNil))) (fMake 0 2 i_Stair_init (fCons (fVar 2) (fCons (fn (fCons (fVar 3) fNil) (p1 gList)) fNil)))) (fLit (.bl false)) (p2 (gIsB true))))) (fRet (fLit (.bl false))) fNext)
      (fSeq (fIf (fPureT (fBl (fEqTu eqT (fDisp .ot (fCons (fVar 2) (fCons (fVar 3) fNil))) (fMake 0 2 i_Stair_init (fCons (fVar 2) (fCons (fVar 3) fNil)))))) (fRet (fLit (.bl false))) fNext)
      (fSeq (fIf (fPureT (fAndT (fBl (f2 (fVar 3) (fDisp .ol fNil) (p2 gNe))) (fNotT (fTru (fCallN i__law_near_right 2 (fCons (fVar 2) (fCons (fVar 3) fNil))))))) (fRet (fLit (.bl false))) fNext)
      (fSeq (fIf (fOrT (fPureT (fBl (fEqN eqT (fMake 0 2 i_Stair_init (fCons (fVar 2) (fCons (fVar 3) fNil))) (fLit .non)))) (fNotT (fTru (fCallN i__law_right 3 (fCons (fVar 1) (fCons (fVar 2) (fCons (fVar 3) fNil))))))) (fRet (fLit (.bl false))) fNext)
      (fIf (fNotT (fTru (fCallN i__law_great_right 1 (fCons (fVar 1) fNil)))) (fRet (fLit (.bl false))) fNext)))))))) (fSeqI (fCallN i__law_purses 2 (fCons (fVar 0) (fCons (fLit (.int 3)) fNil)))))
      (fRet (fLit (.bl true))))
def i_law : Fi := ⟨F_law, 1, [false], []⟩
end L43
end
section
set_option Elab.async false
set_option linter.all false
set_option maxRecDepth 100000
set_option maxHeartbeats 1000000
namespace L43
open PySem PySem.Spec PyProof.Rows L2 Wp
theorem mulOk_r {i j : Int} (h : j.natAbs < 2 ^ 64) : mulOk i j = true := by
  have : Builtin.Int.intBits j ≤ 64 := intBits_le h
  unfold mulOk
  have e : decide (Builtin.Int.intBits j > shortFactorBits) = false := decide_eq_false (by simp only [shortFactorBits]; omega)
  rw [e]
  simp
theorem atI_0 {α : Type} (x : α) (xs : List α) : atI (x :: xs) 0 = some x := by
  simp [atI, ixN]
theorem atI_1 {α : Type} (x y : α) (xs : List α) : atI (x :: y :: xs) 1 = some y := by
  have := atI_nat (xs := x :: y :: xs) (j := 1) (v := y) rfl
  exact this
theorem atI_2 {α : Type} (x y z : α) (xs : List α) : atI (x :: y :: z :: xs) 2 = some z := atI_nat (xs := x :: y :: z :: xs) (j := 2) (v := z) rfl
theorem atI_3 {α : Type} (x y z w : α) (xs : List α) : atI (x :: y :: z :: w :: xs) 3 = some w := atI_nat (xs := x :: y :: z :: w :: xs) (j := 3) (v := w) rfl
theorem ix4_0 : ixN 4 0 = some 0 := rfl
theorem ix4_2 : ixN 4 2 = some 2 := rfl
theorem log2_small {j : Int} {n : Nat} (h : j.natAbs < 2 ^ n) (hn : 0 < n) : j.natAbs.log2 < n := PySem.Flt.log2_lt_of hn h
theorem fmod_bd {i j : Int} (h : 0 < j) : 0 ≤ i.fmod j ∧ i.fmod j < j := ⟨Int.fmod_nonneg_of_pos _ h, Int.fmod_lt_of_pos _ h⟩

/-! ### a purse -/
def pu (a b c e : Int) : Val := .ol [.sh (.int a), .sh (.int b), .sh (.int c), .sh (.int e)]
def mx1 (s t a : Int) : Int := (s * 69069 + 104729 * t * t + 7919 * a + t).fmod 2147483647
def mx2 (s t a : Int) : Int := (mx1 s t a * mx1 s t a + 40503).fmod 2147483629
def mixed (s t a : Int) : Int := (mx2 s t a * 48271).fmod 2147483587
theorem F_mixed (s t a : Int) (ht : 0 ≤ t) (ht2 : t < 2 ^ 60) (ha : 0 ≤ a) (ha2 : a < 2^60) : F__law_mixed [.sh (.int s), .sh (.int t), .sh (.int a)] = some (.ok (.sh (.int (mixed s t a))) [some (.sh (.int s)), some (.sh (.int t)), some (.sh (.int a))]) := by
  have m1 : mulOk s 69069 = true := mulOk_r (by decide)
  have m2 : mulOk 104729 t = true := mulOk_r (by omega)
  have m3 : mulOk (104729 * t) t = true := mulOk_r (by omega)
  have m4 : mulOk 7919 a = true := mulOk_r (by omega)
  have b1 : 0 ≤ mx1 s t a ∧ mx1 s t a < 2147483647 := fmod_bd (by decide)
  have m5 : mulOk (mx1 s t a) (mx1 s t a) = true := mulOk_r (by omega)
  have m6 : mulOk (mx2 s t a) 48271 = true := mulOk_r (by decide)
  unfold mx2 at m6
  unfold mx1 at m5 m6
  unfold mixed mx2 mx1
  simp (config := { decide := true }) only [semF, fSeq, fSet, fIf, fNext, fRet, fRetN, fExpr, fPar, fAsg, f1, f2, fn, fVar, fLit, fCons, fNil, fIte, fBl, blOf, fTru, truR, fAndT, fOrT, fNotT, fAndV, fOrV, fNotV, fDisp, fSlice, fPart, fSetI, isOl, shList, escS, bindR_ok, bindR_some, bindR_exc, okR, appR, prepAll, prep1, escAll, esc1, Val.top, Val.d, Val.ds, shAll, shOf, shAll_map, p1, p2, gAdd, Wp.gSub, gMul, gMod, gNeg, gCmp, cmpF, cLt, cLe, cGt, cGe, gEq, gNe, gIsN, gSub2, gIx, gLen, gMx2, gMn2, gInt, gBits, truthD, dataR, fRng1, fRng2, fSeqI, fFor, gNm, gTp, gsCons, gsNil, itemsT, fCallN, callR, argAll, pass1, arg1, backAll, back1, Fi.dv, theta, List.map_cons, List.map_nil, List.length_cons, List.length_nil, List.cons_append, List.nil_append, List.append_nil, List.replicate_zero, List.replicate_succ, List.getElem?_cons_zero, List.getElem?_cons_succ, List.getElem?_nil, List.set_cons_zero, List.set_cons_succ, List.headD_cons, List.headD_nil, List.tail_cons, List.tail_nil, List.drop_nil, List.drop_zero, Option.map_some, Option.map_none, Option.bind_some, Option.bind_none, if_true, if_false, ite_true, ite_false, reduceIte, Bool.false_eq_true, Bool.true_and, Bool.and_true, Bool.false_and, Bool.and_false, Bool.or_true, Bool.true_or, Bool.or_false, Bool.false_or, Bool.not_true, Bool.not_false, decide_true, decide_false, List.contains_cons, List.elem_cons, List.elem_nil, Nat.reduceSub, Nat.reduceAdd, Nat.reduceLT, Nat.reduceLeDiff, Nat.reduceEqDiff, Nat.zero_add, Nat.add_zero, Nat.sub_self, Nat.le_refl, F__law_mixed, m1, m2, m3, m4, m5, m6]
/-- the loop of a draw -/
theorem draw_loop (b e m : Int) (he : 0 ≤ e) (he2 : e < 2 ^ 60) : ∀ (ys : List Val) (c fd : Int) (l : Option Val), 0 ≤ c → c + ys.length < 2 ^ 60 → ∃ fd' l', loopF (gNm 4) (fSeq (fSetI 0 (f2 (f2 (fVar 0) (fLit (.int 2)) (p2 gSub2)) (fLit (.int 1)) (p2 gAdd)) (fLit (.int 2)))
      (fSet 3 (f2 (f2 (fVar 3) (fLit (.int 2147483587)) (p2 gMul)) (fCallN i__law_mixed 3 (fCons (f2 (fVar 0) (fLit (.int 1)) (p2 gSub2)) (fCons (f2 (fVar 0) (fLit (.int 2)) (p2 gSub2)) (fCons (f2 (fVar 0) (fLit (.int 3)) (p2 gSub2)) fNil)))) (p2 gAdd)))) ys [some (pu 0 b c e), some (.sh (.int m)), none, some (.sh (.int fd)), l] =
      some (.ok .next [some (pu 0 b (c + ys.length) e), some (.sh (.int m)), none, some (.sh (.int fd')), l'])
  | [], c, fd, l, _, _ => ⟨fd, l, by simp [loopF, okR]⟩
  | y :: ys, c, fd, l, hc, hc2 => by
    have hl : (ys.length : Int) ≥ 0 := by omega
    have hc2 : c + ((ys.length : Int) + 1) < 2 ^ 60 := by simpa using hc2
    obtain ⟨fd', l', ih⟩ := draw_loop b e m he he2 ys (c + 1) (fd * 2147483587 + mixed b (c + 1) e) (some y) (by omega) (by omega)
    refine ⟨fd', l', ?_⟩
    have m1 : mulOk fd 2147483587 = true := mulOk_r (by decide)
    have hm := F_mixed b (c + 1) e (by omega) (by omega) he he2
    simp only [loopF]
    unfold pu at ih ⊢
    simp (config := { decide := true }) only [semF, fSeq, fSet, fIf, fNext, fRet, fRetN, fExpr, fPar, fAsg, f1, f2, fn, fVar, fLit, fCons, fNil, fIte, fBl, blOf, fTru, truR, fAndT, fOrT, fNotT, fAndV, fOrV, fNotV, fDisp, fSlice, fPart, fSetI, isOl, shList, escS, bindR_ok, bindR_some, bindR_exc, okR, appR, prepAll, prep1, escAll, esc1, Val.top, Val.d, Val.ds, shAll, shOf, shAll_map, p1, p2, gAdd, Wp.gSub, gMul, gMod, gNeg, gCmp, cmpF, cLt, cLe, cGt, cGe, gEq, gNe, gIsN, gSub2, gIx, gLen, gMx2, gMn2, gInt, gBits, truthD, dataR, fRng1, fRng2, fSeqI, fFor, gNm, gTp, gsCons, gsNil, itemsT, fCallN, callR, argAll, pass1, arg1, backAll, back1, Fi.dv, theta, List.map_cons, List.map_nil, List.length_cons, List.length_nil, List.cons_append, List.nil_append, List.append_nil, List.replicate_zero, List.replicate_succ, List.getElem?_cons_zero, List.getElem?_cons_succ, List.getElem?_nil, List.set_cons_zero, List.set_cons_succ, List.headD_cons, List.headD_nil, List.tail_cons, List.tail_nil, List.drop_nil, List.drop_zero, Option.map_some, Option.map_none, Option.bind_some, Option.bind_none, if_true, if_false, ite_true, ite_false, reduceIte, Bool.false_eq_true, Bool.true_and, Bool.and_true, Bool.false_and, Bool.and_false, Bool.or_true, Bool.true_or, Bool.or_false, Bool.false_or, Bool.not_true, Bool.not_false, decide_true, decide_false, List.contains_cons, List.elem_cons, List.elem_nil, Nat.reduceSub, Nat.reduceAdd, Nat.reduceLT, Nat.reduceLeDiff, Nat.reduceEqDiff, Nat.zero_add, Nat.add_zero, Nat.sub_self, Nat.le_refl, i__law_mixed, hm, m1, atI_0, atI_1, atI_2, atI_3, ix4_0, ix4_2]
    simp only [Wp.bindL]
    have e1 : c + 1 + (ys.length : Int) = c + ((ys.length + 1 : Nat) : Int) := by rw [Int.natCast_add]; omega
    rw [e1] at ih
    exact ih

theorem bits_le {m : Int} {n : Nat} (h : m.natAbs < 2 ^ n) : Builtin.Int.intBits m ≤ n := intBits_le h
theorem F_draw (a b c e m : Int) (ha : 0 ≤ a) (hm : 1 ≤ m) (hm2 : m < 2 ^ 400) (hc : 0 ≤ c) (hc2 : c < 2 ^ 59) (he : 0 ≤ e) (he2 : e < 2 ^ 60) :
    ∃ r a' c', 0 ≤ r ∧ r < m ∧ 0 ≤ a' ∧ c ≤ c' ∧ c' ≤ c + 16 ∧ F__law_draw [pu a b c e, .sh (.int m)] = some (.ok (.sh (.int r)) [some (pu a' b c' e), some (.sh (.int m))]) := by
  have hz : ¬ m = 0 := by omega
  have hm3 : m.natAbs < 2 ^ 400 := by omega
  have hlog : m.natAbs.log2 < 9000 := Nat.lt_of_lt_of_le (log2_small hm3 (by decide)) (by decide)
  by_cases h : 0 < a
  · obtain ⟨r1, r2⟩ := fmod_bd (i := a) (j := m) (by omega)
    refine ⟨a.fmod m, a.fdiv m, c, r1, r2, by rw [Int.fdiv_eq_ediv_of_nonneg _ (by omega)]; exact Int.ediv_nonneg ha (by omega), by omega, by omega, ?_⟩
    have hd : decide (0 < a) = true := decide_eq_true h
    unfold pu
    simp (config := { decide := true }) only [semF, fSeq, fSet, fIf, fNext, fRet, fRetN, fExpr, fPar, fAsg, f1, f2, fn, fVar, fLit, fCons, fNil, fIte, fBl, blOf, fTru, truR, fAndT, fOrT, fNotT, fAndV, fOrV, fNotV, fDisp, fSlice, fPart, fSetI, isOl, shList, escS, bindR_ok, bindR_some, bindR_exc, okR, appR, prepAll, prep1, escAll, esc1, Val.top, Val.d, Val.ds, shAll, shOf, shAll_map, p1, p2, gAdd, Wp.gSub, gMul, gMod, gNeg, gCmp, cmpF, cLt, cLe, cGt, cGe, gEq, gNe, gIsN, gSub2, gIx, gLen, gMx2, gMn2, gInt, gBits, truthD, dataR, fRng1, fRng2, fSeqI, fFor, gNm, gTp, gsCons, gsNil, itemsT, fCallN, callR, argAll, pass1, arg1, backAll, back1, Fi.dv, theta, List.map_cons, List.map_nil, List.length_cons, List.length_nil, List.cons_append, List.nil_append, List.append_nil, List.replicate_zero, List.replicate_succ, List.getElem?_cons_zero, List.getElem?_cons_succ, List.getElem?_nil, List.set_cons_zero, List.set_cons_succ, List.headD_cons, List.headD_nil, List.tail_cons, List.tail_nil, List.drop_nil, List.drop_zero, Option.map_some, Option.map_none, Option.bind_some, Option.bind_none, if_true, if_false, ite_true, ite_false, reduceIte, Bool.false_eq_true, Bool.true_and, Bool.and_true, Bool.false_and, Bool.and_false, Bool.or_true, Bool.true_or, Bool.or_false, Bool.false_or, Bool.not_true, Bool.not_false, decide_true, decide_false, List.contains_cons, List.elem_cons, List.elem_nil, Nat.reduceSub, Nat.reduceAdd, Nat.reduceLT, Nat.reduceLeDiff, Nat.reduceEqDiff, Nat.zero_add, Nat.add_zero, Nat.sub_self, Nat.le_refl, F__law_draw, atI_0, atI_1, atI_2, atI_3, ix4_0, ix4_2, hd, hz, gDiv, hlog]
  · obtain rfl : a = 0 := by omega
    have hb : Builtin.Int.intBits m ≤ 400 := bits_le hm3
    have hd : decide ((0 : Int) < 0) = false := rfl
    generalize hq : ((Builtin.Int.intBits m : Nat) : Int).fdiv 28 = q
    have hq0 : 0 ≤ q ∧ q ≤ 14 := by
      rw [Int.fdiv_eq_ediv_of_nonneg _ (by decide)] at hq
      omega
    have hs : small62 (1 + q) = true := by unfold small62; exact decide_eq_true (by omega)
    have h28 : ¬ (28 : Int) = 0 := by decide
    have hl28 : (28 : Int).natAbs.log2 < 9000 := Nat.lt_of_lt_of_le (log2_small (j := 28) (n := 10) (by decide) (by decide)) (by decide)
    obtain ⟨fd, l, hf⟩ := draw_loop b e m he he2 (rngV 0 (1 + q).toNat) c 0 none hc (by rw [rngV_len]; omega)
    obtain ⟨r1, r2⟩ := fmod_bd (i := fd) (j := m) (by omega)
    refine ⟨fd.fmod m, 0, c + (rngV 0 (1 + q).toNat).length, r1, r2, by omega, by omega, by rw [rngV_len]; omega, ?_⟩
    unfold pu at hf ⊢
    simp (config := { decide := true }) only [semF, fSeq, fSet, fIf, fNext, fRet, fRetN, fExpr, fPar, fAsg, f1, f2, fn, fVar, fLit, fCons, fNil, fIte, fBl, blOf, fTru, truR, fAndT, fOrT, fNotT, fAndV, fOrV, fNotV, fDisp, fSlice, fPart, fSetI, isOl, shList, escS, bindR_ok, bindR_some, bindR_exc, okR, appR, prepAll, prep1, escAll, esc1, Val.top, Val.d, Val.ds, shAll, shOf, shAll_map, p1, p2, gAdd, Wp.gSub, gMul, gMod, gNeg, gCmp, cmpF, cLt, cLe, cGt, cGe, gEq, gNe, gIsN, gSub2, gIx, gLen, gMx2, gMn2, gInt, gBits, truthD, dataR, fRng1, fRng2, fSeqI, fFor, gNm, gTp, gsCons, gsNil, itemsT, fCallN, callR, argAll, pass1, arg1, backAll, back1, Fi.dv, theta, List.map_cons, List.map_nil, List.length_cons, List.length_nil, List.cons_append, List.nil_append, List.append_nil, List.replicate_zero, List.replicate_succ, List.getElem?_cons_zero, List.getElem?_cons_succ, List.getElem?_nil, List.set_cons_zero, List.set_cons_succ, List.headD_cons, List.headD_nil, List.tail_cons, List.tail_nil, List.drop_nil, List.drop_zero, Option.map_some, Option.map_none, Option.bind_some, Option.bind_none, if_true, if_false, ite_true, ite_false, reduceIte, Bool.false_eq_true, Bool.true_and, Bool.and_true, Bool.false_and, Bool.and_false, Bool.or_true, Bool.true_or, Bool.or_false, Bool.false_or, Bool.not_true, Bool.not_false, decide_true, decide_false, List.contains_cons, List.elem_cons, List.elem_nil, Nat.reduceSub, Nat.reduceAdd, Nat.reduceLT, Nat.reduceLeDiff, Nat.reduceEqDiff, Nat.zero_add, Nat.add_zero, Nat.sub_self, Nat.le_refl, F__law_draw, atI_0, atI_1, atI_2, atI_3, ix4_0, ix4_2, hd, hz, gDiv, hlog, hq, hs, h28, hl28, hf]
end L43
end
section
set_option Elab.async false
set_option linter.all false
set_option maxRecDepth 100000
set_option maxHeartbeats 1000000
namespace L43
open PySem PySem.Spec PyProof.Rows L2 Wp
/-! ### lists of ints -/
abbrev il (ns : List Int) : D := .lst (ns.map .int)
abbrev iv (ns : List Int) : Val := .ol ((ns.map D.int).map .sh)
theorem iv_app (ns : List Int) (n : Int) : Val.ol ((ns.map D.int).map .sh ++ [.sh (.int n)]) = iv (ns ++ [n]) := by simp [iv]
theorem atI_map {ns : List Int} {i : Int} : atI (ns.map D.int) i = (atI ns i).map D.int := by
  unfold atI
  rw [List.length_map]
  cases ixN ns.length i <;> simp
theorem atI_some {ns : List Int} {i : Int} (h0 : 0 ≤ i) (h1 : i < ns.length) : ∃ n, atI ns i = some n ∧ n ∈ ns ∧ ns[i.toNat]? = some n := by
  obtain ⟨j, rfl⟩ := Int.eq_ofNat_of_zero_le h0
  have hj : j < ns.length := by omega
  refine ⟨ns[j], atI_nat (by rw [List.getElem?_eq_getElem hj]), List.getElem_mem hj, ?_⟩
  rw [Int.toNat_natCast, List.getElem?_eq_getElem hj]
/-- one of a list of ints -/
theorem F_one_of (a b c e : Int) (ns : List Int) (hn : ns ≠ []) (hn2 : ns.length < 2 ^ 30) (ha : 0 ≤ a) (hc : 0 ≤ c) (hc2 : c < 2 ^ 59) (he : 0 ≤ e) (he2 : e < 2 ^ 60) :
    ∃ r a' c', r ∈ ns ∧ 0 ≤ a' ∧ c ≤ c' ∧ c' ≤ c + 16 ∧ F__law_one_of [pu a b c e, .sh (il ns)] = some (.ok (.sh (.int r)) [some (pu a' b c' e), some (.sh (il ns))]) := by
  have hl : 1 ≤ (ns.length : Int) := by
    have := List.length_pos_iff.mpr hn
    omega
  obtain ⟨i, a', c', h0, h1, h2, h3, h4, hf⟩ := F_draw a b c e ns.length ha hl (by omega) hc hc2 he he2
  obtain ⟨r, q1, q2, _⟩ := atI_some h0 h1
  refine ⟨r, a', c', q2, h2, h3, h4, ?_⟩
  unfold pu at hf ⊢
  simp (config := { decide := true }) only [semF, fRetM, fSeq, fSet, fIf, fNext, fRet, fRetN, fExpr, fPar, fAsg, f1, f2, fn, fVar, fLit, fCons, fNil, fIte, fBl, blOf, fTru, truR, fAndT, fOrT, fNotT, fAndV, fOrV, fNotV, fDisp, fSlice, fPart, fSetI, isOl, shList, escS, bindR_ok, bindR_some, bindR_exc, okR, appR, prepAll, prep1, escAll, esc1, Val.top, Val.d, Val.ds, shAll, shOf, shAll_map, p1, p2, gAdd, Wp.gSub, gMul, gMod, gNeg, gCmp, cmpF, cLt, cLe, cGt, cGe, gEq, gNe, gIsN, gSub2, gIx, gLen, gMx2, gMn2, gInt, gBits, truthD, dataR, fRng1, fRng2, fSeqI, fFor, gNm, gTp, gsCons, gsNil, itemsT, fCallN, callR, argAll, pass1, arg1, backAll, back1, Fi.dv, theta, List.map_cons, List.map_nil, List.length_cons, List.length_nil, List.cons_append, List.nil_append, List.append_nil, List.replicate_zero, List.replicate_succ, List.getElem?_cons_zero, List.getElem?_cons_succ, List.getElem?_nil, List.set_cons_zero, List.set_cons_succ, List.headD_cons, List.headD_nil, List.tail_cons, List.tail_nil, List.drop_nil, List.drop_zero, Option.map_some, Option.map_none, Option.bind_some, Option.bind_none, if_true, if_false, ite_true, ite_false, reduceIte, Bool.false_eq_true, Bool.true_and, Bool.and_true, Bool.false_and, Bool.and_false, Bool.or_true, Bool.true_or, Bool.or_false, Bool.false_or, Bool.not_true, Bool.not_false, decide_true, decide_false, List.contains_cons, List.elem_cons, List.elem_nil, Nat.reduceSub, Nat.reduceAdd, Nat.reduceLT, Nat.reduceLeDiff, Nat.reduceEqDiff, Nat.zero_add, Nat.add_zero, Nat.sub_self, Nat.le_refl, F__law_one_of, i__law_draw, List.length_map, hf, atI_map, q1, il]
/-! ### corners -/
def Inc (cs : List Int) : Prop := cs.Pairwise (· < ·) ∧ ∀ x ∈ cs, 0 ≤ x
theorem Inc.snoc {cs : List Int} {n : Int} (h : Inc cs) (hn : ∀ x ∈ cs, x < n) (h0 : 0 ≤ n) : Inc (cs ++ [n]) := by
  refine ⟨List.pairwise_append.mpr ⟨h.1, by simp, fun a ha b hb => ?_⟩, fun x hx => ?_⟩
  · obtain rfl : b = n := by simpa using hb
    exact hn a ha
  · rcases List.mem_append.mp hx with z | z
    · exact h.2 x z
    · obtain rfl : x = n := by simpa using z
      exact h0
def GapL (cs : List Int) : Prop := ∀ (i : Nat) x y, cs[i]? = some x → cs[i + 1]? = some y → x + 1 ≤ y ∧ y ≤ x + 5
def Hd3 (cs : List Int) : Prop := ∀ x, cs[0]? = some x → 0 ≤ x ∧ x ≤ 3
def GpN (cs : List Int) (now : Int) : Prop := GapL cs ∧ Hd3 cs ∧ (cs = [] → 0 ≤ now ∧ now ≤ 3) ∧ ∀ x, cs.getLast? = some x → x + 1 ≤ now ∧ now ≤ x + 5
theorem GpN.snoc {cs : List Int} {now r : Int} (h : GpN cs now) (r0 : 0 ≤ r) (r1 : r < 5) : GpN (cs ++ [now]) (now + 1 + r) := by
  obtain ⟨h1, h2, h3, h4⟩ := h
  refine ⟨fun i x y e1 e2 => ?_, fun x e => ?_, fun e => by simp at e, fun x e => ?_⟩
  · rcases Nat.lt_trichotomy (i + 1) cs.length with z | z | z
    · rw [List.getElem?_append_left (by omega)] at e1 e2
      exact h1 i x y e1 e2
    · rw [List.getElem?_append_left (by omega)] at e1
      rw [List.getElem?_append_right (by omega)] at e2
      have e3 : now = y := by simpa [z] using e2
      subst e3
      refine h4 x ?_
      rw [List.getLast?_eq_getElem?, show cs.length - 1 = i by omega]
      exact e1
    · rw [List.getElem?_append_right (by omega)] at e2
      have : ([now] : List Int)[i + 1 - cs.length]? = none := List.getElem?_eq_none (by simp; omega)
      rw [this] at e2
      cases e2
  · cases cs with
    | nil =>
      have e3 : now = x := by simpa using e
      subst e3
      exact h3 rfl
    | cons c cs => exact h2 x (by simpa using e)
  · have e3 : now = x := by simpa using e
    subst e3
    omega
theorem corners_loop (b e most : Int) (he : 0 ≤ e) (he2 : e < 2 ^ 60) : ∀ (ys : List Val) (a c now : Int) (cs : List Int) (l : Option Val), 0 ≤ a → 0 ≤ c → c + 16 * ys.length < 2 ^ 58 → Inc cs → (∀ x ∈ cs, x < now) → 0 ≤ now → cs.length + ys.length < 1000 → GpN cs now →
    ∃ a' c' now' cs' l', 0 ≤ a' ∧ c ≤ c' ∧ c' ≤ c + 16 * ys.length ∧ Inc cs' ∧ (∀ x ∈ cs', x < now') ∧ now' ≤ now + 5 * ys.length ∧ cs'.length = cs.length + ys.length ∧ GpN cs' now' ∧
      loopF (gNm 4) (fSeq (fExpr (fApp 2 (fVar 3))) (fSet 3 (f2 (f2 (fVar 3) (fLit (.int 1)) (p2 gAdd)) (fCallN i__law_draw 2 (fCons (fVar 0) (fCons (fLit (.int 5)) fNil))) (p2 gAdd)))) ys
        [some (pu a b c e), some (.sh (.int most)), some (iv cs), some (.sh (.int now)), l] = some (.ok .next [some (pu a' b c' e), some (.sh (.int most)), some (iv cs'), some (.sh (.int now')), l'])
  | [], a, c, now, cs, l, ha, hc, _, hi, hlt, h0, _, hG => ⟨a, c, now, cs, l, ha, by omega, by simp, hi, hlt, by simp, by simp, hG, by simp [loopF, okR]⟩
  | y :: ys, a, c, now, cs, l, ha, hc, hc2, hi, hlt, h0, hlen, hG => by
    have hc3 : c + 16 * ((ys.length : Int) + 1) < 2 ^ 58 := by simpa using hc2
    obtain ⟨r, a1, c1, r0, r1, k1, k2, k3, hf⟩ := F_draw a b c e 5 ha (by decide) (by decide) hc (by omega) he he2
    obtain ⟨a', c', now', cs', l', j1, j2, j3, j4, j5, j6, j7, j8, ih⟩ := corners_loop b e most he he2 ys a1 c1 (now + 1 + r) (cs ++ [now]) (some y) k1 (by omega) (by omega) (hi.snoc hlt h0) (fun x hx => by
      rcases List.mem_append.mp hx with z | z
      · have := hlt x z
        omega
      · obtain rfl : x = now := by simpa using z
        omega) (by omega) (by simp at hlen ⊢; omega) (hG.snoc r0 r1)
    have hsz : ((cs.map D.int).map Val.sh).length < sizeLine := by
      rw [sizeLine_eq]
      simp at hlen ⊢
      omega
    refine ⟨a', c', now', cs', l', j1, by omega, by simp; omega, j4, j5, by simp; omega, by simp at j7 ⊢; omega, j8, ?_⟩
    simp only [loopF]
    unfold pu at hf ih ⊢
    unfold iv at ih ⊢
    simp (config := { decide := true }) only [semF, fRetM, fSeq, fSet, fIf, fNext, fRet, fRetN, fExpr, fPar, fAsg, f1, f2, fn, fVar, fLit, fCons, fNil, fIte, fBl, blOf, fTru, truR, fAndT, fOrT, fNotT, fAndV, fOrV, fNotV, fDisp, fSlice, fPart, fSetI, isOl, shList, escS, bindR_ok, bindR_some, bindR_exc, okR, appR, prepAll, prep1, escAll, esc1, Val.top, Val.d, Val.ds, shAll, shOf, shAll_map, p1, p2, gAdd, Wp.gSub, gMul, gMod, gNeg, gCmp, cmpF, cLt, cLe, cGt, cGe, gEq, gNe, gIsN, gSub2, gIx, gLen, gMx2, gMn2, gInt, gBits, truthD, dataR, fRng1, fRng2, fSeqI, fFor, gNm, gTp, gsCons, gsNil, itemsT, fCallN, callR, argAll, pass1, arg1, backAll, back1, Fi.dv, theta, List.map_cons, List.map_nil, List.length_cons, List.length_nil, List.cons_append, List.nil_append, List.append_nil, List.replicate_zero, List.replicate_succ, List.getElem?_cons_zero, List.getElem?_cons_succ, List.getElem?_nil, List.set_cons_zero, List.set_cons_succ, List.headD_cons, List.headD_nil, List.tail_cons, List.tail_nil, List.drop_nil, List.drop_zero, Option.map_some, Option.map_none, Option.bind_some, Option.bind_none, if_true, if_false, ite_true, ite_false, reduceIte, Bool.false_eq_true, Bool.true_and, Bool.and_true, Bool.false_and, Bool.and_false, Bool.or_true, Bool.true_or, Bool.or_false, Bool.false_or, Bool.not_true, Bool.not_false, decide_true, decide_false, List.contains_cons, List.elem_cons, List.elem_nil, Nat.reduceSub, Nat.reduceAdd, Nat.reduceLT, Nat.reduceLeDiff, Nat.reduceEqDiff, Nat.zero_add, Nat.add_zero, Nat.sub_self, Nat.le_refl, i__law_draw, fApp, hsz, hf, il]
    simp only [Wp.bindL]
    rw [iv_app]
    exact ih
theorem F_corners (a b c e most : Int) (ha : 0 ≤ a) (hc : 0 ≤ c) (hc2 : c < 2 ^ 50) (he : 0 ≤ e) (he2 : e < 2 ^ 60) (hm : 0 ≤ most) (hm2 : most ≤ 20) :
    ∃ cs a' c', 0 ≤ a' ∧ c ≤ c' ∧ c' ≤ c + 400 ∧ Inc cs ∧ (∀ x ∈ cs, x ≤ 3 + 5 * most) ∧ cs.length ≤ most.toNat ∧ (GapL cs ∧ Hd3 cs) ∧ F__law_corners [pu a b c e, .sh (.int most)] = some (.ok (iv cs) [some (pu a' b c' e), some (.sh (.int most))]) := by
  obtain ⟨now, a1, c1, n0, k1, k2, k3, hf1⟩ := F_one_of a b c e [0, 0, 1, 3] (by simp) (by decide) ha hc (by omega) he he2
  have hnow : 0 ≤ now ∧ now ≤ 3 := by
    simp at n0
    omega
  obtain ⟨t, a2, c2, t0, t1, k4, k5, k6, hf2⟩ := F_draw a1 b c1 e (most + 1) k1 (by omega) (by omega) (by omega) (by omega) he he2
  obtain ⟨a', c', now', cs', l', j1, j2, j3, j4, j5, j6, j7, j8, hl⟩ := corners_loop b e most he he2 (rngV 0 t.toNat) a2 c2 now [] none k4 (by omega) (by rw [rngV_len]; omega) ⟨by simp, by simp⟩ (by simp) hnow.1 (by rw [rngV_len]; simp; omega) ⟨fun i x y e1 _ => by simp at e1, fun x e => by simp at e, fun _ => hnow, fun x e => by simp at e⟩
  rw [rngV_len] at j3 j6 j7
  have hs : small62 t = true := by unfold small62; exact decide_eq_true (by omega)
  refine ⟨cs', a', c', j1, by omega, by omega, j4, fun x hx => by have := j5 x hx; omega, by simp at j7; omega, ⟨j8.1, j8.2.1⟩, ?_⟩
  have hz : (0 : Nat) ≤ sizeLine := Nat.zero_le _
  have hz4 : (4 : Nat) ≤ sizeLine := by rw [sizeLine_eq]; decide
  unfold pu at hf1 hf2 hl ⊢
  simp only [iv, il, List.map_cons, List.map_nil, i__law_draw] at hf1 hl ⊢
  simp (config := { decide := true }) only [semF, fRetM, fSeq, fSet, fIf, fNext, fRet, fRetN, fExpr, fPar, fAsg, f1, f2, fn, fVar, fLit, fCons, fNil, fIte, fBl, blOf, fTru, truR, fAndT, fOrT, fNotT, fAndV, fOrV, fNotV, fDisp, fSlice, fPart, fSetI, isOl, shList, escS, bindR_ok, bindR_some, bindR_exc, okR, appR, prepAll, prep1, escAll, esc1, Val.top, Val.d, Val.ds, shAll, shOf, shAll_map, p1, p2, gAdd, Wp.gSub, gMul, gMod, gNeg, gCmp, cmpF, cLt, cLe, cGt, cGe, gEq, gNe, gIsN, gSub2, gIx, gLen, gMx2, gMn2, gInt, gBits, truthD, dataR, fRng1, fRng2, fSeqI, fFor, gNm, gTp, gsCons, gsNil, itemsT, fCallN, callR, argAll, pass1, arg1, backAll, back1, Fi.dv, theta, List.map_cons, List.map_nil, List.length_cons, List.length_nil, List.cons_append, List.nil_append, List.append_nil, List.replicate_zero, List.replicate_succ, List.getElem?_cons_zero, List.getElem?_cons_succ, List.getElem?_nil, List.set_cons_zero, List.set_cons_succ, List.headD_cons, List.headD_nil, List.tail_cons, List.tail_nil, List.drop_nil, List.drop_zero, Option.map_some, Option.map_none, Option.bind_some, Option.bind_none, if_true, if_false, ite_true, ite_false, reduceIte, Bool.false_eq_true, Bool.true_and, Bool.and_true, Bool.false_and, Bool.and_false, Bool.or_true, Bool.true_or, Bool.or_false, Bool.false_or, Bool.not_true, Bool.not_false, decide_true, decide_false, List.contains_cons, List.elem_cons, List.elem_nil, Nat.reduceSub, Nat.reduceAdd, Nat.reduceLT, Nat.reduceLeDiff, Nat.reduceEqDiff, Nat.zero_add, Nat.add_zero, Nat.sub_self, Nat.le_refl, F__law_corners, i__law_one_of, i__law_draw, hf1, hf2, hs, hl, hz, hz4, Val.ds_map, List.map_map, Function.comp_def]
theorem F_stair (a b c e most : Int) (ha : 0 ≤ a) (hc : 0 ≤ c) (hc2 : c < 2 ^ 49) (he : 0 ≤ e) (he2 : e < 2 ^ 60) (hm : 0 ≤ most) (hm2 : most ≤ 20) :
    ∃ h cs a' c', 0 ≤ a' ∧ c ≤ c' ∧ c' ≤ c + 500 ∧ -5 < h ∧ h < 9 ∧ Inc cs ∧ (∀ x ∈ cs, x ≤ 3 + 5 * most) ∧ cs.length ≤ most.toNat ∧ (GapL cs ∧ Hd3 cs) ∧ F__law_stair [pu a b c e, .sh (.int most)] = some (.ok (.ot [.sh (.int h), iv cs]) [some (pu a' b c' e), some (.sh (.int most))]) := by
  obtain ⟨r1, a1, c1, q1, q2, k1, k2, k3, hf1⟩ := F_draw a b c e 9 ha (by decide) (by decide) hc (by omega) he he2
  obtain ⟨r2, a2, c2, q3, q4, k4, k5, k6, hf2⟩ := F_draw a1 b c1 e 5 k1 (by decide) (by decide) (by omega) (by omega) he he2
  obtain ⟨cs, a3, c3, k7, k8, k9, i1, i2, i3, i4, hf3⟩ := F_corners a2 b c2 e most k4 (by omega) (by omega) he he2 hm hm2
  refine ⟨r1 - r2, cs, a3, c3, k7, by omega, by omega, by omega, by omega, i1, i2, i3, i4, ?_⟩
  have hz2 : (2 : Nat) ≤ sizeLine := by rw [sizeLine_eq]; decide
  unfold pu at hf1 hf2 hf3 ⊢
  simp (config := { decide := true }) only [semF, fRetM, fSeq, fSet, fIf, fNext, fRet, fRetN, fExpr, fPar, fAsg, f1, f2, fn, fVar, fLit, fCons, fNil, fIte, fBl, blOf, fTru, truR, fAndT, fOrT, fNotT, fAndV, fOrV, fNotV, fDisp, fSlice, fPart, fSetI, isOl, shList, escS, bindR_ok, bindR_some, bindR_exc, okR, appR, prepAll, prep1, escAll, esc1, Val.top, Val.d, Val.ds, shAll, shOf, shAll_map, p1, p2, gAdd, Wp.gSub, gMul, gMod, gNeg, gCmp, cmpF, cLt, cLe, cGt, cGe, gEq, gNe, gIsN, gSub2, gIx, gLen, gMx2, gMn2, gInt, gBits, truthD, dataR, fRng1, fRng2, fSeqI, fFor, gNm, gTp, gsCons, gsNil, itemsT, fCallN, callR, argAll, pass1, arg1, backAll, back1, Fi.dv, theta, List.map_cons, List.map_nil, List.length_cons, List.length_nil, List.cons_append, List.nil_append, List.append_nil, List.replicate_zero, List.replicate_succ, List.getElem?_cons_zero, List.getElem?_cons_succ, List.getElem?_nil, List.set_cons_zero, List.set_cons_succ, List.headD_cons, List.headD_nil, List.tail_cons, List.tail_nil, List.drop_nil, List.drop_zero, Option.map_some, Option.map_none, Option.bind_some, Option.bind_none, if_true, if_false, ite_true, ite_false, reduceIte, Bool.false_eq_true, Bool.true_and, Bool.and_true, Bool.false_and, Bool.and_false, Bool.or_true, Bool.true_or, Bool.or_false, Bool.false_or, Bool.not_true, Bool.not_false, decide_true, decide_false, List.contains_cons, List.elem_cons, List.elem_nil, Nat.reduceSub, Nat.reduceAdd, Nat.reduceLT, Nat.reduceLeDiff, Nat.reduceEqDiff, Nat.zero_add, Nat.add_zero, Nat.sub_self, Nat.le_refl, F__law_stair, i__law_corners, i__law_draw, hf1, hf2, hf3, hz2]
end L43
end
section
set_option Elab.async false
set_option linter.all false
set_option maxRecDepth 100000
set_option maxHeartbeats 1000000
namespace L43
open PySem PySem.Spec PyProof.Rows L2 Wp
/-! ### a comprehension whose parts change nothing -/
theorem loopC_pure {n : Nat} {vs : List Nat} {g : FG} {ft : FT} {fe : FO} {η : Wp.Env} (t : Val → Bool) (z : Val → Val) : ∀ (ys acc : List Val), acc.length + ys.length < sizeLine →
    (∀ y ∈ ys, ∃ η1, g y η = some η1 ∧ η1.length = n ∧ ∃ η2, ft η1 = some (.ok (t y) η2) ∧ (t y = true → ∃ o η3 η4, fe η2 = some (.ok o η3) ∧ esc1 o η3 = some (z y, η4) ∧ wipeE η4 vs = η) ∧ (t y = false → wipeE η2 vs = η)) →
    loopC n vs g ft fe ys acc η = some (.ok (.pend (.ol (acc ++ (ys.filter t).map z))) η)
  | [], acc, _, _ => by simp [loopC, okR]
  | y :: ys, acc, hl, h => by
    obtain ⟨η1, h1, h2, η2, h3, h4, h5⟩ := h y (List.mem_cons_self ..)
    simp only [List.length_cons] at hl
    simp only [loopC, h1, h2, if_true, h3]
    cases ht : t y with
    | true =>
      obtain ⟨o, η3, η4, k1, k2, k3⟩ := h4 ht
      simp only [if_true, k1, k2]
      rw [if_pos (by omega), k3, loopC_pure t z ys (acc ++ [z y]) (by simp; omega) fun y' hy => h y' (List.mem_cons_of_mem _ hy)]
      simp [List.filter_cons, ht]
    | false =>
      simp only [Bool.false_eq_true, if_false]
      rw [h5 ht, loopC_pure t z ys acc (by omega) fun y' hy => h y' (List.mem_cons_of_mem _ hy)]
      simp [List.filter_cons, ht]
/-! ### lists of ints compared -/
theorem toPys_ints : ∀ ns : List Int, toPys (ns.map .int) = some (ns.map .int)
  | [] => rfl
  | n :: ns => by simp [toPys, toPy, toPys_ints ns]
theorem lay_ints : ∀ ns : List Int, PyData.canLayAll0 (ns.map .int) = true
  | [] => by simp [PyData.canLayAll0]
  | n :: ns => by simp [PyData.canLayAll0, PyData.canLay0, lay_ints ns]
theorem depth_ints : ∀ ns : List Int, PyData.depthAll (ns.map .int) ≤ 1
  | [] => by simp [PyData.depthAll]
  | n :: ns => by
    have := depth_ints ns
    simp [PyData.depthAll, PyData.depth]
    omega
theorem eqv_ints : ∀ ns ms : List Int, PyData.eqvAll (ns.map .int) (ms.map .int) = decide (ns = ms)
  | [], [] => by simp [PyData.eqvAll]
  | [], m :: ms => by simp [PyData.eqvAll]
  | n :: ns, [] => by simp [PyData.eqvAll]
  | n :: ns, m :: ms => by
    simp only [List.map_cons, PyData.eqvAll, PyData.eqv, eqv_ints ns ms, List.cons.injEq, Bool.decide_and]
    rfl
theorem shaped_ints (ns : List Int) : SeqAt.shaped (.list (ns.map .int)) = true := by
  have := depth_ints ns
  simp only [SeqAt.shaped, PyData.canLay0, lay_ints, PyData.depth, Bool.true_and]
  exact decide_eq_true (by omega)
theorem eqC_il (ns ms : List Int) : eqC (il ns) (il ms) = some (decide (ns = ms)) := by
  unfold il eqC
  simp only [toPy, toPys_ints, Option.map_some, Option.bind_some, shaped_ints, Bool.and_self, if_true, PyData.eqv, eqv_ints]
/-! ### stairs -/
abbrev fsS : List Str := ["base", "turns"]
def stD (b : Int) (cs : List Int) : D := .obj 0 fsS [.int b, .tup (cs.map .int)]
theorem in_turns : ("turns" : Str) ∈ fsS := by decide
theorem in_base : ("base" : Str) ∈ fsS := by decide
theorem ix_turns : fsS.idxOf? ("turns" : Str) = some 1 := by decide
theorem ix_base : fsS.idxOf? ("base" : Str) = some 0 := by decide
theorem at_turns {i : Nat} {b : Int} {cs : List Int} {η : Wp.Env} (h : η[i]? = some (some (.sh (stD b cs)))) : fAttr fc_turns pt_turns "turns" (fVar i) η = some (.ok (.pend (.sh (.tup (cs.map .int)))) η) := by
  unfold fAttr fVar
  simp only [h, okR, bindR_some, Opv.cls, Val.cls, stD, in_turns, if_true, fc_turns, decide_true, appR, prepAll, prep1, Val.top, fieldG, ix_turns, Option.bind_some, List.getElem?_cons_succ, List.getElem?_cons_zero, Option.map_some]
  rfl
theorem at_base {i : Nat} {b : Int} {cs : List Int} {η : Wp.Env} (h : η[i]? = some (some (.sh (stD b cs)))) : fAttr fc_base pt_base "base" (fVar i) η = some (.ok (.pend (.sh (.int b))) η) := by
  unfold fAttr fVar
  simp only [h, okR, bindR_some, Opv.cls, Val.cls, stD, in_base, if_true, fc_base, decide_true, appR, prepAll, prep1, Val.top, fieldG, ix_base, Option.bind_some, List.getElem?_cons_succ, List.getElem?_cons_zero, Option.map_some]
  rfl
/-- the rises -/
def riV : List Int → List Val
  | [] => []
  | [c] => [.ot [.sh (.int c), .sh .non]]
  | c :: d :: r => .ot [.sh (.int c), .sh (.int d)] :: riV r
def riD : List Int → List D
  | [] => []
  | [c] => [.tup [.int c, .non]]
  | c :: d :: r => .tup [.int c, .int d] :: riD r
theorem riV_d : ∀ cs : List Int, Val.ds (riV cs) = riD cs
  | [] => by simp [riV, riD, Val.ds]
  | [c] => by simp [riV, riD, Val.ds, Val.d]
  | c :: d :: r => by simp [riV, riD, Val.ds, Val.d, riV_d r]
theorem riV_len : ∀ cs : List Int, (riV cs).length ≤ cs.length
  | [] => by simp [riV]
  | [c] => by simp [riV]
  | c :: d :: r => by
    have := riV_len r
    simp [riV]
    omega
/-- every second place, from k on -/
def evs : Nat → List Int → List Val
  | _, [] => []
  | k, [_] => [.sh (.int k)]
  | k, _ :: _ :: r => .sh (.int k) :: evs (k + 2) r
theorem evs_len : ∀ (k : Nat) (cs : List Int), (evs k cs).length = (cs.length + 1) / 2
  | _, [] => by simp [evs]
  | _, [_] => by simp [evs]
  | k, _ :: _ :: r => by simp only [evs, List.length_cons, evs_len (k + 2) r]; omega
theorem rngC_evs : ∀ (k : Nat) (cs : List Int), rngC (k : Int) 2 ((cs.length + 1) / 2) = evs k cs := by
  intro k cs
  refine List.ext_getElem? fun i => ?_
  unfold rngC
  induction cs using riV.induct generalizing k i with
  | case1 => simp [evs]
  | case2 c =>
    cases i with
    | zero => simp [evs]
    | succ i => simp [evs]
  | case3 c d r ih =>
    have e : ((c :: d :: r).length + 1) / 2 = (r.length + 1) / 2 + 1 := by simp only [List.length_cons]; omega
    rw [e]
    cases i with
    | zero => simp [evs, List.range_succ_eq_map]
    | succ i =>
      have := ih (k + 2) i
      simp only [evs, List.getElem?_cons_succ]
      rw [← this, List.range_succ_eq_map]
      simp only [List.map_cons, List.getElem?_cons_succ, List.map_map, List.getElem?_map]
      cases (List.range ((r.length + 1) / 2))[i]? with
      | none => rfl
      | some j =>
        simp only [Option.map_some, Function.comp_apply, Option.some.injEq, Val.sh.injEq, D.int.injEq]
        omega
theorem size_evs (n : Nat) : (Builtin.Range.rangeSize 0 n 2).toNat = (n + 1) / 2 := by
  unfold Builtin.Range.rangeSize
  simp only [show (2 : Int) > 0 by decide, if_true]
  split <;> omega
theorem rgc_ok {n : Nat} (h : n < 2 ^ 30) : rgcB 0 n 2 = true := by
  have hr : (0 : Int) ≤ Builtin.Range.rangeSize 0 n 2 ∧ Builtin.Range.rangeSize 0 n 2 < 2 ^ 31 := by
    unfold Builtin.Range.rangeSize
    simp only [show (2 : Int) > 0 by decide, if_true]
    split <;> omega
  obtain ⟨h1, h3⟩ := hr
  have fit : ∀ i : Int, -1 ≤ i → i < 2 ^ 40 → Builtin.Range.rangeFitsLong i = true := fun i z1 z2 => by
    unfold Builtin.Range.rangeFitsLong
    rw [Bool.and_eq_true]
    exact ⟨decide_eq_true (by omega), decide_eq_true (by omega)⟩
  have h2 : Builtin.Range.small 0 n 2 = true := by
    unfold Builtin.Range.small
    generalize Builtin.Range.rangeSize 0 n 2 = q at h1 h3
    rw [if_pos (show (2 : Int) > 0 by decide), fit 0 (by decide) (by decide), fit n (by omega) (by omega), fit 2 (by decide) (by decide), fit q (by omega) (by omega), fit (n + (2 - 1)) (by omega) (by omega), Bool.or_true]
    rfl
  unfold rgcB
  rw [h2]
  have h4 : decide ((2 : Int) ≠ 0 ∧ (2 : Int).natAbs < 1073741824) = true := by decide
  rw [h4, decide_eq_true h1]
  rfl
end L43
end
section
set_option Elab.async false
set_option linter.all false
set_option maxRecDepth 100000
set_option maxHeartbeats 1000000
namespace L43
open PySem PySem.Spec PyProof.Rows L2 Wp
theorem ds_sh (ds : List D) : Val.ds (ds.map .sh) = ds := by simp [Val.ds_map, Function.comp_def, Val.d]
theorem eqC_one (d : Int) : eqC (.lst [.int d]) (.lst []) = some false := eqC_il [d] []
theorem eqC_nil : eqC (.lst []) (.lst []) = some true := eqC_il [] []
theorem sIx_n (n d k : Nat) : HT.sIx n d (some (k : Int)) = min k n := HT.sIx_nat n d k
theorem cut1 (xs : List D) (k : Nat) : Wp.cutD xs (some ((k : Int) + 1)) (some ((k : Int) + 2)) = (xs.drop (k + 1)).take 1 := by
  unfold Wp.cutD
  have e1 : ((k : Int) + 1) = ((k + 1 : Nat) : Int) := by omega
  have e2 : ((k : Int) + 2) = ((k + 2 : Nat) : Int) := by omega
  rw [e1, e2, sIx_n, sIx_n]
  by_cases h : k + 1 < xs.length
  · rw [Nat.min_eq_left (by omega), Nat.min_eq_left (by omega)]
    congr 1
    omega
  · have h1 : xs.drop (min (k + 1) xs.length) = [] := List.drop_eq_nil_of_le (by omega)
    have h2 : xs.drop (k + 1) = [] := List.drop_eq_nil_of_le (by omega)
    rw [h1, h2]
    simp
theorem gSl_tup1 (xs : List D) (k : Nat) (h : 0 < xs.length) : gSl (some ((k : Int) + 1)) (some ((k : Int) + 2)) (.tup xs) = some (.ot (((xs.drop (k + 1)).take 1).map .sh)) := by
  simp only [gSl]
  rw [if_neg, cut1]
  rintro ⟨z, _⟩
  have e1 : ((k : Int) + 1) = ((k + 1 : Nat) : Int) := by omega
  rw [e1, sIx_n] at z
  omega
theorem gSl_lst1 (xs : List D) (k : Nat) : gSl (some ((k : Int) + 1)) (some ((k : Int) + 2)) (.lst xs) = some (.ol (((xs.drop (k + 1)).take 1).map .sh)) := by
  simp only [gSl]
  rw [cut1]
theorem atI_mid {pre suf : List Int} {c : Int} : atI ((pre ++ c :: suf).map D.int) (pre.length : Int) = some (.int c) := by
  refine atI_nat ?_
  simp
theorem drop_one {pre suf : List Int} {c : Int} : ((pre ++ c :: suf).map D.int).drop (pre.length + 1) = suf.map .int := by
  rw [← List.map_drop]
  congr 1
  rw [show pre ++ c :: suf = (pre ++ [c]) ++ suf by simp]
  rw [List.drop_left' (by simp)]
theorem rises_loop (b : Int) (cs : List Int) (hcs : cs.length < 900) : ∀ (suf pre : List Int) (acc : List Val) (x2 x3 : Option Val), cs = pre ++ suf → acc.length ≤ pre.length →
    ∃ x2' x3', loopF (gNm 2) (fSeq (fSet 3 (fn (fCons (fSlice (fAttr fc_turns pt_turns "turns" (fVar 0)) (some (f2 (fVar 2) (fLit (.int 1)) (p2 gAdd))) (some (f2 (fVar 2) (fLit (.int 2)) (p2 gAdd)))) fNil) (p1 gList)))
      (fExpr (fApp 1 (fDisp .ot (fCons (f2 (fAttr fc_turns pt_turns "turns" (fVar 0)) (fVar 2) (p2 gSub2)) (fCons (fIte (fBl (f2 (fVar 3) (fDisp .ol fNil) (p2 gNe))) (f2 (fVar 3) (fLit (.int 0)) (p2 gSub2)) (fLit .non)) fNil)))))) (evs pre.length suf)
      [some (.sh (stD b cs)), some (.ol acc), x2, x3] = some (.ok .next [some (.sh (stD b cs)), some (.ol (acc ++ riV suf)), x2', x3'])
  | [], pre, acc, x2, x3, e, _ => ⟨x2, x3, by simp [evs, riV, loopF, okR]⟩
  | [c], pre, acc, x2, x3, e, ha => by
    have hpos : 0 < (cs.map D.int).length := by rw [e, List.length_map, List.length_append]; simp only [List.length_cons]; omega
    have hs := gSl_tup1 (cs.map D.int) pre.length hpos
    have hat : atI (cs.map D.int) (pre.length : Int) = some (.int c) := by rw [e]; exact atI_mid
    have hdr : (cs.map D.int).drop (pre.length + 1) = ([] : List Int).map .int := by rw [e]; exact drop_one
    rw [hdr] at hs
    have hl : acc.length < sizeLine := by
      rw [sizeLine_eq]
      have : cs.length = pre.length + 1 := by rw [e]; simp
      omega
    have hz2 : (2 : Nat) ≤ sizeLine := by rw [sizeLine_eq]; decide
    refine ⟨some (.sh (.int pre.length)), some (.ol []), ?_⟩
    simp only [evs, loopF]
    simp (config := { decide := true }) only [semF, fRetM, fSeq, fSet, fIf, fNext, fRet, fRetN, fExpr, fPar, fAsg, f1, f2, fn, fVar, fLit, fCons, fNil, fIte, fBl, blOf, fTru, truR, fAndT, fOrT, fNotT, fAndV, fOrV, fNotV, fDisp, fSlice, fPart, fSetI, isOl, shList, escS, bindR_ok, bindR_some, bindR_exc, okR, appR, prepAll, prep1, escAll, esc1, Val.top, Val.d, Val.ds, shAll, shOf, shAll_map, p1, p2, gAdd, Wp.gSub, gMul, gMod, gNeg, gCmp, cmpF, cLt, cLe, cGt, cGe, gEq, gNe, gIsN, gSub2, gIx, gLen, gMx2, gMn2, gInt, gBits, truthD, dataR, fRng1, fRng2, fSeqI, fFor, gNm, gTp, gsCons, gsNil, itemsT, fCallN, callR, argAll, pass1, arg1, backAll, back1, Fi.dv, theta, List.map_cons, List.map_nil, List.length_cons, List.length_nil, List.cons_append, List.nil_append, List.append_nil, List.replicate_zero, List.replicate_succ, List.getElem?_cons_zero, List.getElem?_cons_succ, List.getElem?_nil, List.set_cons_zero, List.set_cons_succ, List.headD_cons, List.headD_nil, List.tail_cons, List.tail_nil, List.drop_nil, List.drop_zero, Option.map_some, Option.map_none, Option.bind_some, Option.bind_none, if_true, if_false, ite_true, ite_false, reduceIte, Bool.false_eq_true, Bool.true_and, Bool.and_true, Bool.false_and, Bool.and_false, Bool.or_true, Bool.true_or, Bool.or_false, Bool.false_or, Bool.not_true, Bool.not_false, decide_true, decide_false, List.contains_cons, List.elem_cons, List.elem_nil, Nat.reduceSub, Nat.reduceAdd, Nat.reduceLT, Nat.reduceLeDiff, Nat.reduceEqDiff, Nat.zero_add, Nat.add_zero, Nat.sub_self, Nat.le_refl, at_turns (b := b) (cs := cs), hs, gList, hat, eqC_nil, fApp, hl, hz2, List.take_nil, Nat.zero_le, riV]
    simp only [Wp.bindL, okR]
  | c :: d :: r, pre, acc, x2, x3, e, ha => by
    have hpos : 0 < (cs.map D.int).length := by rw [e, List.length_map, List.length_append]; simp only [List.length_cons]; omega
    have hs := gSl_tup1 (cs.map D.int) pre.length hpos
    have hat : atI (cs.map D.int) (pre.length : Int) = some (.int c) := by rw [e]; exact atI_mid
    have hdr : (cs.map D.int).drop (pre.length + 1) = (d :: r).map .int := by rw [e]; exact drop_one
    rw [hdr] at hs
    have hl : acc.length < sizeLine := by
      rw [sizeLine_eq]
      have : cs.length = pre.length + (r.length + 2) := by rw [e]; simp
      omega
    have hz2 : (2 : Nat) ≤ sizeLine := by rw [sizeLine_eq]; decide
    obtain ⟨x2', x3', ih⟩ := rises_loop b cs hcs r (pre ++ [c, d]) (acc ++ [.ot [.sh (.int c), .sh (.int d)]]) (some (.sh (.int pre.length))) (some (.ol [.sh (.int d)])) (by rw [e]; simp) (by simp; omega)
    rw [show (pre ++ [c, d]).length = pre.length + 2 by simp] at ih
    refine ⟨x2', x3', ?_⟩
    simp only [evs, loopF]
    simp (config := { decide := true }) only [semF, fRetM, fSeq, fSet, fIf, fNext, fRet, fRetN, fExpr, fPar, fAsg, f1, f2, fn, fVar, fLit, fCons, fNil, fIte, fBl, blOf, fTru, truR, fAndT, fOrT, fNotT, fAndV, fOrV, fNotV, fDisp, fSlice, fPart, fSetI, isOl, shList, escS, bindR_ok, bindR_some, bindR_exc, okR, appR, prepAll, prep1, escAll, esc1, Val.top, Val.d, Val.ds, shAll, shOf, shAll_map, p1, p2, gAdd, Wp.gSub, gMul, gMod, gNeg, gCmp, cmpF, cLt, cLe, cGt, cGe, gEq, gNe, gIsN, gSub2, gIx, gLen, gMx2, gMn2, gInt, gBits, truthD, dataR, fRng1, fRng2, fSeqI, fFor, gNm, gTp, gsCons, gsNil, itemsT, fCallN, callR, argAll, pass1, arg1, backAll, back1, Fi.dv, theta, List.map_cons, List.map_nil, List.length_cons, List.length_nil, List.cons_append, List.nil_append, List.append_nil, List.replicate_zero, List.replicate_succ, List.getElem?_cons_zero, List.getElem?_cons_succ, List.getElem?_nil, List.set_cons_zero, List.set_cons_succ, List.headD_cons, List.headD_nil, List.tail_cons, List.tail_nil, List.drop_nil, List.drop_zero, Option.map_some, Option.map_none, Option.bind_some, Option.bind_none, if_true, if_false, ite_true, ite_false, reduceIte, Bool.false_eq_true, Bool.true_and, Bool.and_true, Bool.false_and, Bool.and_false, Bool.or_true, Bool.true_or, Bool.or_false, Bool.false_or, Bool.not_true, Bool.not_false, decide_true, decide_false, List.contains_cons, List.elem_cons, List.elem_nil, Nat.reduceSub, Nat.reduceAdd, Nat.reduceLT, Nat.reduceLeDiff, Nat.reduceEqDiff, Nat.zero_add, Nat.add_zero, Nat.sub_self, Nat.le_refl, at_turns (b := b) (cs := cs), hs, gList, hat, eqC_one, fApp, hl, hz2, List.take_succ_cons, List.take_zero, riV, atI_0]
    simp only [Wp.bindL]
    rw [ih]
    simp
theorem fRng3_ok {g : FL} {η η2 : Wp.Env} {i j c : Int} (hd : dataR 3 g η = some (.ok [.int i, .int j, .int c] η2)) (h : rgcB i j c = true) : fRng3 g η = some (.ok (rngC i c (Builtin.Range.rangeSize i j c).toNat) η2) := by
  unfold fRng3
  rw [hd, bindR_some]
  simp only [h, if_true]
  rfl
theorem rng_d (b : Int) (cs : List Int) (x1 x2 x3 : Option Val) : dataR 3 (fCons (fLit (.int 0)) (fCons (fn (fCons (fAttr fc_turns pt_turns "turns" (fVar 0)) fNil) (p1 gLen)) (fCons (fLit (.int 2)) fNil))) [some (.sh (stD b cs)), x1, x2, x3] = some (.ok [.int 0, .int cs.length, .int 2] [some (.sh (stD b cs)), x1, x2, x3]) := by
    simp only [semF, fRetM, fSeq, fSet, fIf, fNext, fRet, fRetN, fExpr, fPar, fAsg, f1, f2, fn, fVar, fLit, fCons, fNil, fIte, fBl, blOf, fTru, truR, fAndT, fOrT, fNotT, fAndV, fOrV, fNotV, fDisp, fSlice, fPart, fSetI, isOl, shList, escS, bindR_ok, bindR_some, bindR_exc, okR, appR, prepAll, prep1, escAll, esc1, Val.top, Val.d, Val.ds, shAll, shOf, shAll_map, p1, p2, gAdd, Wp.gSub, gMul, gMod, gNeg, gCmp, cmpF, cLt, cLe, cGt, cGe, gEq, gNe, gIsN, gSub2, gIx, gLen, gMx2, gMn2, gInt, gBits, truthD, dataR, fRng1, fRng2, fSeqI, fFor, gNm, gTp, gsCons, gsNil, itemsT, fCallN, callR, argAll, pass1, arg1, backAll, back1, Fi.dv, theta, List.map_cons, List.map_nil, List.length_cons, List.length_nil, List.cons_append, List.nil_append, List.append_nil, List.replicate_zero, List.replicate_succ, List.getElem?_cons_zero, List.getElem?_cons_succ, List.getElem?_nil, List.set_cons_zero, List.set_cons_succ, List.headD_cons, List.headD_nil, List.tail_cons, List.tail_nil, List.drop_nil, List.drop_zero, Option.map_some, Option.map_none, Option.bind_some, Option.bind_none, if_true, if_false, ite_true, ite_false, reduceIte, Bool.false_eq_true, Bool.true_and, Bool.and_true, Bool.false_and, Bool.and_false, Bool.or_true, Bool.true_or, Bool.or_false, Bool.false_or, Bool.not_true, Bool.not_false, decide_true, decide_false, List.contains_cons, List.elem_cons, List.elem_nil, Nat.reduceSub, Nat.reduceAdd, Nat.reduceLT, Nat.reduceLeDiff, Nat.reduceEqDiff, Nat.zero_add, Nat.add_zero, Nat.sub_self, Nat.le_refl, at_turns (b := b) (cs := cs), List.length_map]
theorem rng_t (b : Int) (cs : List Int) (x1 x2 x3 : Option Val) (hcs : cs.length < 900) : (fRng3 (fCons (fLit (.int 0)) (fCons (fn (fCons (fAttr fc_turns pt_turns "turns" (fVar 0)) fNil) (p1 gLen)) (fCons (fLit (.int 2)) fNil)))) [some (.sh (stD b cs)), x1, x2, x3] = some (.ok (evs 0 cs) [some (.sh (stD b cs)), x1, x2, x3]) := by
  rw [fRng3_ok (rng_d b cs x1 x2 x3) (rgc_ok (Nat.lt_trans hcs (by decide))), size_evs]
  have hr2 : rngC 0 2 ((cs.length + 1) / 2) = evs 0 cs := rngC_evs 0 cs
  rw [hr2]
theorem fSeq_next {f g : FS} {η η1 : Wp.Env} (h : f η = some (.ok .next η1)) : fSeq f g η = g η1 := by
  unfold fSeq
  rw [h]
  rfl
theorem fFor_ok {g : FG} {body : FS} {f : FI} {η η1 : Wp.Env} {ys : List Val} (h : f η = some (.ok ys η1)) : fFor g body f η = loopF g body ys η1 := by
  unfold fFor
  rw [h]
  rfl
theorem semF_ret {n len : Nat} {kp : List Nat} {fb : FS} {xs : List Val} {x : Val} {η : Wp.Env} (h : fb (xs.map some ++ List.replicate (len - xs.length) none) = some (.ok (.ret x) η)) (hn : n ≤ η.length) : semF n len kp false fb xs = some (.ok (.sh x.d) (theta kp 0 n η)) := by
  unfold semF
  rw [h]
  simp only [if_pos hn]
  rfl
theorem F_rises (b : Int) (cs : List Int) (hcs : cs.length < 900) : F_Stair_rises [.sh (stD b cs)] = some (.ok (.sh (.lst (riD cs))) [some (.sh (stD b cs))]) := by
  obtain ⟨x2, x3, hl⟩ := rises_loop b cs hcs cs [] [] none none rfl (by simp)
  simp only [List.length_nil, List.nil_append] at hl
  have h1 : fSet 1 (fDisp .ol fNil) [some (.sh (stD b cs)), none, none, none] = some (.ok .next [some (.sh (stD b cs)), some (.ol []), none, none]) := by simp only [semF, fRetM, fSeq, fSet, fIf, fNext, fRet, fRetN, fExpr, fPar, fAsg, f1, f2, fn, fVar, fLit, fCons, fNil, fIte, fBl, blOf, fTru, truR, fAndT, fOrT, fNotT, fAndV, fOrV, fNotV, fDisp, fSlice, fPart, fSetI, isOl, shList, escS, bindR_ok, bindR_some, bindR_exc, okR, appR, prepAll, prep1, escAll, esc1, Val.top, Val.d, Val.ds, shAll, shOf, shAll_map, p1, p2, gAdd, Wp.gSub, gMul, gMod, gNeg, gCmp, cmpF, cLt, cLe, cGt, cGe, gEq, gNe, gIsN, gSub2, gIx, gLen, gMx2, gMn2, gInt, gBits, truthD, dataR, fRng1, fRng2, fSeqI, fFor, gNm, gTp, gsCons, gsNil, itemsT, fCallN, callR, argAll, pass1, arg1, backAll, back1, Fi.dv, theta, List.map_cons, List.map_nil, List.length_cons, List.length_nil, List.cons_append, List.nil_append, List.append_nil, List.replicate_zero, List.replicate_succ, List.getElem?_cons_zero, List.getElem?_cons_succ, List.getElem?_nil, List.set_cons_zero, List.set_cons_succ, List.headD_cons, List.headD_nil, List.tail_cons, List.tail_nil, List.drop_nil, List.drop_zero, Option.map_some, Option.map_none, Option.bind_some, Option.bind_none, if_true, if_false, ite_true, ite_false, reduceIte, Bool.false_eq_true, Bool.true_and, Bool.and_true, Bool.false_and, Bool.and_false, Bool.or_true, Bool.true_or, Bool.or_false, Bool.false_or, Bool.not_true, Bool.not_false, decide_true, decide_false, List.contains_cons, List.elem_cons, List.elem_nil, Nat.reduceSub, Nat.reduceAdd, Nat.reduceLT, Nat.reduceLeDiff, Nat.reduceEqDiff, Nat.zero_add, Nat.add_zero, Nat.sub_self, Nat.le_refl, Nat.zero_le]
  have h3 : fRet (fVar 1) [some (.sh (stD b cs)), some (.ol (riV cs)), x2, x3] = some (.ok (.ret (.sh (.lst (riD cs)))) [some (.sh (stD b cs)), some (.sh (.lst (riD cs))), x2, x3]) := by simp only [semF, fRetM, fSeq, fSet, fIf, fNext, fRet, fRetN, fExpr, fPar, fAsg, f1, f2, fn, fVar, fLit, fCons, fNil, fIte, fBl, blOf, fTru, truR, fAndT, fOrT, fNotT, fAndV, fOrV, fNotV, fDisp, fSlice, fPart, fSetI, isOl, shList, escS, bindR_ok, bindR_some, bindR_exc, okR, appR, prepAll, prep1, escAll, esc1, Val.top, Val.d, Val.ds, shAll, shOf, shAll_map, p1, p2, gAdd, Wp.gSub, gMul, gMod, gNeg, gCmp, cmpF, cLt, cLe, cGt, cGe, gEq, gNe, gIsN, gSub2, gIx, gLen, gMx2, gMn2, gInt, gBits, truthD, dataR, fRng1, fRng2, fSeqI, fFor, gNm, gTp, gsCons, gsNil, itemsT, fCallN, callR, argAll, pass1, arg1, backAll, back1, Fi.dv, theta, List.map_cons, List.map_nil, List.length_cons, List.length_nil, List.cons_append, List.nil_append, List.append_nil, List.replicate_zero, List.replicate_succ, List.getElem?_cons_zero, List.getElem?_cons_succ, List.getElem?_nil, List.set_cons_zero, List.set_cons_succ, List.headD_cons, List.headD_nil, List.tail_cons, List.tail_nil, List.drop_nil, List.drop_zero, Option.map_some, Option.map_none, Option.bind_some, Option.bind_none, if_true, if_false, ite_true, ite_false, reduceIte, Bool.false_eq_true, Bool.true_and, Bool.and_true, Bool.false_and, Bool.and_false, Bool.or_true, Bool.true_or, Bool.or_false, Bool.false_or, Bool.not_true, Bool.not_false, decide_true, decide_false, List.contains_cons, List.elem_cons, List.elem_nil, Nat.reduceSub, Nat.reduceAdd, Nat.reduceLT, Nat.reduceLeDiff, Nat.reduceEqDiff, Nat.zero_add, Nat.add_zero, Nat.sub_self, Nat.le_refl, riV_d]
  unfold F_Stair_rises
  rw [semF_ret (x := .sh (.lst (riD cs))) (η := [some (.sh (stD b cs)), some (.sh (.lst (riD cs))), x2, x3]) ?_ (by simp)]
  · rfl
  · show fSeq _ _ [some (.sh (stD b cs)), none, none, none] = _
    rw [fSeq_next h1, fSeq_next (by rw [fFor_ok (rng_t b cs _ _ _ hcs)]; exact hl)]
    exact h3
end L43
end
section
set_option Elab.async false
set_option linter.all false
set_option maxRecDepth 100000
set_option maxHeartbeats 1000000
namespace L43
open PySem PySem.Spec PyProof.Rows L2 Wp
/-- the height of a stair -/
def ht (b : Int) : List Int → Int → Int
  | [], _ => b
  | [c], n => b + max (n - c) 0
  | c :: d :: r, n => ht (b + max (min n d - c) 0) r n
theorem height_loop (s : Val) (n : Int) : ∀ (cs : List Int) (b : Int) (x3 x4 x5 : Option Val), ∃ x3' x4' x5', loopF (gTp (gsCons (gNm 3) (gsCons (gNm 4) gsNil))) (fSeq (fSet 5 (fIte (fBl (f2 (fVar 4) (fLit .non) (p2 (gIsN false)))) (fVar 1) (fn (fCons (fVar 1) (fCons (fVar 4) fNil)) (p2 gMn2))))
      (fSet 2 (f2 (fVar 2) (fn (fCons (f2 (fVar 5) (fVar 3) (p2 Wp.gSub)) (fCons (fLit (.int 0)) fNil)) (p2 gMx2)) (p2 gAdd)))) ((riD cs).map .sh)
      [some s, some (.sh (.int n)), some (.sh (.int b)), x3, x4, x5] = some (.ok .next [some s, some (.sh (.int n)), some (.sh (.int (ht b cs n))), x3', x4', x5'])
  | [], b, x3, x4, x5 => ⟨x3, x4, x5, by simp [riD, ht, loopF, okR]⟩
  | [c], b, x3, x4, x5 => by
    refine ⟨some (.sh (.int c)), some (.sh .non), some (.sh (.int n)), ?_⟩
    simp only [riD, List.map_cons, List.map_nil, loopF]
    simp (config := { decide := true }) only [semF, fRetM, fSeq, fSet, fIf, fNext, fRet, fRetN, fExpr, fPar, fAsg, f1, f2, fn, fVar, fLit, fCons, fNil, fIte, fBl, blOf, fTru, truR, fAndT, fOrT, fNotT, fAndV, fOrV, fNotV, fDisp, fSlice, fPart, fSetI, isOl, shList, escS, bindR_ok, bindR_some, bindR_exc, okR, appR, prepAll, prep1, escAll, esc1, Val.top, Val.d, Val.ds, shAll, shOf, shAll_map, p1, p2, gAdd, Wp.gSub, gMul, gMod, gNeg, gCmp, cmpF, cLt, cLe, cGt, cGe, gEq, gNe, gIsN, gSub2, gIx, gLen, gMx2, gMn2, gInt, gBits, truthD, dataR, fRng1, fRng2, fSeqI, fFor, gNm, gTp, gsCons, gsNil, itemsT, fCallN, callR, argAll, pass1, arg1, backAll, back1, Fi.dv, theta, List.map_cons, List.map_nil, List.length_cons, List.length_nil, List.cons_append, List.nil_append, List.append_nil, List.replicate_zero, List.replicate_succ, List.getElem?_cons_zero, List.getElem?_cons_succ, List.getElem?_nil, List.set_cons_zero, List.set_cons_succ, List.headD_cons, List.headD_nil, List.tail_cons, List.tail_nil, List.drop_nil, List.drop_zero, Option.map_some, Option.map_none, Option.bind_some, Option.bind_none, if_true, if_false, ite_true, ite_false, reduceIte, Bool.false_eq_true, Bool.true_and, Bool.and_true, Bool.false_and, Bool.and_false, Bool.or_true, Bool.true_or, Bool.or_false, Bool.false_or, Bool.not_true, Bool.not_false, decide_true, decide_false, List.contains_cons, List.elem_cons, List.elem_nil, Nat.reduceSub, Nat.reduceAdd, Nat.reduceLT, Nat.reduceLeDiff, Nat.reduceEqDiff, Nat.zero_add, Nat.add_zero, Nat.sub_self, Nat.le_refl, ht]
    simp only [Wp.bindL, okR]
  | c :: d :: r, b, x3, x4, x5 => by
    obtain ⟨y3, y4, y5, ih⟩ := height_loop s n r (b + max (min n d - c) 0) (some (.sh (.int c))) (some (.sh (.int d))) (some (.sh (.int (min n d))))
    refine ⟨y3, y4, y5, ?_⟩
    simp only [riD, List.map_cons, loopF]
    simp (config := { decide := true }) only [semF, fRetM, fSeq, fSet, fIf, fNext, fRet, fRetN, fExpr, fPar, fAsg, f1, f2, fn, fVar, fLit, fCons, fNil, fIte, fBl, blOf, fTru, truR, fAndT, fOrT, fNotT, fAndV, fOrV, fNotV, fDisp, fSlice, fPart, fSetI, isOl, shList, escS, bindR_ok, bindR_some, bindR_exc, okR, appR, prepAll, prep1, escAll, esc1, Val.top, Val.d, Val.ds, shAll, shOf, shAll_map, p1, p2, gAdd, Wp.gSub, gMul, gMod, gNeg, gCmp, cmpF, cLt, cLe, cGt, cGe, gEq, gNe, gIsN, gSub2, gIx, gLen, gMx2, gMn2, gInt, gBits, truthD, dataR, fRng1, fRng2, fSeqI, fFor, gNm, gTp, gsCons, gsNil, itemsT, fCallN, callR, argAll, pass1, arg1, backAll, back1, Fi.dv, theta, List.map_cons, List.map_nil, List.length_cons, List.length_nil, List.cons_append, List.nil_append, List.append_nil, List.replicate_zero, List.replicate_succ, List.getElem?_cons_zero, List.getElem?_cons_succ, List.getElem?_nil, List.set_cons_zero, List.set_cons_succ, List.headD_cons, List.headD_nil, List.tail_cons, List.tail_nil, List.drop_nil, List.drop_zero, Option.map_some, Option.map_none, Option.bind_some, Option.bind_none, if_true, if_false, ite_true, ite_false, reduceIte, Bool.false_eq_true, Bool.true_and, Bool.and_true, Bool.false_and, Bool.and_false, Bool.or_true, Bool.true_or, Bool.or_false, Bool.false_or, Bool.not_true, Bool.not_false, decide_true, decide_false, List.contains_cons, List.elem_cons, List.elem_nil, Nat.reduceSub, Nat.reduceAdd, Nat.reduceLT, Nat.reduceLeDiff, Nat.reduceEqDiff, Nat.zero_add, Nat.add_zero, Nat.sub_self, Nat.le_refl, ht]
    simp only [Wp.bindL]
    exact ih
theorem callR_val {n : Nat} {ms : List Bool} {F : FF} {os : List Opv} {η η1 : Wp.Env} {xs : List Val} {x : Val} {θ : Wp.Env} (ha : argAll ms os η = some (xs, η1)) (hn : os.length = n) (hF : F xs = some (.ok x θ)) : callR n ms F [] os η = some (.ok (.pend x) (backAll os θ η1)) := by
  unfold callR
  rw [ha]
  simp only [List.length_nil, Nat.add_zero, hn, if_true, List.map_nil, List.append_nil, hF]
theorem dv_nil {F : FF} {n m : Nat} {ms : List Bool} : Fi.dv ⟨F, n, ms, []⟩ m = [] := by simp [Fi.dv]
theorem fMeth0_val {mt : Nat → Option Fi} {m : Str} {fo : FO} {η η1 : Wp.Env} {o : Opv} {c : Nat} {fs : List Str} {F : FF} {ms : List Bool} {xs : List Val} {x : Val} {θ : Wp.Env} (ho : fo η = some (.ok o η)) (hc : o.cls η = some (c, fs)) (hm : m ∉ fs) (hi : mt c = some ⟨F, 1, ms, []⟩)
    (ha : argAll ms [o] η = some (xs, η1)) (hF : F xs = some (.ok x θ)) : fMeth mt m 0 fo fNil η = some (.ok (.pend x) (backAll [o] θ η1)) := by
  unfold fMeth
  rw [ho, bindR_some, hc]
  simp only [hm, if_false, hi, fNil, bindR_ok, List.length_nil, if_true, dv_nil]
  exact callR_val ha rfl hF
theorem fMeth1_val {mt : Nat → Option Fi} {m : Str} {fo fa : FO} {η η1 : Wp.Env} {o p : Opv} {c : Nat} {fs : List Str} {F : FF} {ms : List Bool} {xs : List Val} {x : Val} {θ : Wp.Env} (ho : fo η = some (.ok o η)) (hc : o.cls η = some (c, fs)) (hm : m ∉ fs) (hi : mt c = some ⟨F, 2, ms, []⟩)
    (hp : fa η = some (.ok p η)) (ha : argAll ms [o, p] η = some (xs, η1)) (hF : F xs = some (.ok x θ)) : fMeth mt m 1 fo (fCons fa fNil) η = some (.ok (.pend x) (backAll [o, p] θ η1)) := by
  unfold fMeth
  rw [ho, bindR_some, hc]
  simp only [hm, if_false, hi, fCons, hp, bindR_some, fNil, bindR_ok, List.length_cons, List.length_nil, if_true, dv_nil]
  exact callR_val ha rfl hF
theorem not_rises : ("rises" : Str) ∉ fsS := by decide
theorem F_height (b : Int) (cs : List Int) (n : Int) (hcs : cs.length < 900) : F_Stair_height [.sh (stD b cs), .sh (.int n)] = some (.ok (.sh (.int (ht b cs n))) [some (.sh (stD b cs)), some (.sh (.int n))]) := by
  obtain ⟨x3, x4, x5, hl⟩ := height_loop (.sh (stD b cs)) n cs b none none none
  have hr := F_rises b cs hcs
  have h1 : fSet 2 (fAttr fc_base pt_base "base" (fVar 0)) [some (.sh (stD b cs)), some (.sh (.int n)), none, none, none, none] = some (.ok .next [some (.sh (stD b cs)), some (.sh (.int n)), some (.sh (.int b)), none, none, none]) := by
    simp only [semF, fRetM, fSeq, fSet, fIf, fNext, fRet, fRetN, fExpr, fPar, fAsg, f1, f2, fn, fVar, fLit, fCons, fNil, fIte, fBl, blOf, fTru, truR, fAndT, fOrT, fNotT, fAndV, fOrV, fNotV, fDisp, fSlice, fPart, fSetI, isOl, shList, escS, bindR_ok, bindR_some, bindR_exc, okR, appR, prepAll, prep1, escAll, esc1, Val.top, Val.d, Val.ds, shAll, shOf, shAll_map, p1, p2, gAdd, Wp.gSub, gMul, gMod, gNeg, gCmp, cmpF, cLt, cLe, cGt, cGe, gEq, gNe, gIsN, gSub2, gIx, gLen, gMx2, gMn2, gInt, gBits, truthD, dataR, fRng1, fRng2, fSeqI, fFor, gNm, gTp, gsCons, gsNil, itemsT, fCallN, callR, argAll, pass1, arg1, backAll, back1, Fi.dv, theta, List.map_cons, List.map_nil, List.length_cons, List.length_nil, List.cons_append, List.nil_append, List.append_nil, List.replicate_zero, List.replicate_succ, List.getElem?_cons_zero, List.getElem?_cons_succ, List.getElem?_nil, List.set_cons_zero, List.set_cons_succ, List.headD_cons, List.headD_nil, List.tail_cons, List.tail_nil, List.drop_nil, List.drop_zero, Option.map_some, Option.map_none, Option.bind_some, Option.bind_none, if_true, if_false, ite_true, ite_false, reduceIte, Bool.false_eq_true, Bool.true_and, Bool.and_true, Bool.false_and, Bool.and_false, Bool.or_true, Bool.true_or, Bool.or_false, Bool.false_or, Bool.not_true, Bool.not_false, decide_true, decide_false, List.contains_cons, List.elem_cons, List.elem_nil, Nat.reduceSub, Nat.reduceAdd, Nat.reduceLT, Nat.reduceLeDiff, Nat.reduceEqDiff, Nat.zero_add, Nat.add_zero, Nat.sub_self, Nat.le_refl, at_base (b := b) (cs := cs)]
  have hm : fMeth mt_rises "rises" 0 (fVar 0) fNil [some (.sh (stD b cs)), some (.sh (.int n)), some (.sh (.int b)), none, none, none] = some (.ok (.pend (.sh (.lst (riD cs)))) [some (.sh (stD b cs)), some (.sh (.int n)), some (.sh (.int b)), none, none, none]) := by
    exact fMeth0_val (η := [some (.sh (stD b cs)), some (.sh (.int n)), some (.sh (.int b)), none, none, none]) (η1 := [some (.sh (stD b cs)), some (.sh (.int n)), some (.sh (.int b)), none, none, none]) (o := .slot 0) (F := F_Stair_rises) (ms := [false]) (xs := [.sh (stD b cs)]) rfl rfl not_rises rfl rfl hr
  have hi : fSeqI (fMeth mt_rises "rises" 0 (fVar 0) fNil) [some (.sh (stD b cs)), some (.sh (.int n)), some (.sh (.int b)), none, none, none] = some (.ok ((riD cs).map .sh) [some (.sh (stD b cs)), some (.sh (.int n)), some (.sh (.int b)), none, none, none]) := by
    unfold fSeqI
    rw [hm]
    rfl
  have h3 : fRet (fVar 2) [some (.sh (stD b cs)), some (.sh (.int n)), some (.sh (.int (ht b cs n))), x3, x4, x5] = some (.ok (.ret (.sh (.int (ht b cs n)))) [some (.sh (stD b cs)), some (.sh (.int n)), some (.sh (.int (ht b cs n))), x3, x4, x5]) := by simp only [semF, fRetM, fSeq, fSet, fIf, fNext, fRet, fRetN, fExpr, fPar, fAsg, f1, f2, fn, fVar, fLit, fCons, fNil, fIte, fBl, blOf, fTru, truR, fAndT, fOrT, fNotT, fAndV, fOrV, fNotV, fDisp, fSlice, fPart, fSetI, isOl, shList, escS, bindR_ok, bindR_some, bindR_exc, okR, appR, prepAll, prep1, escAll, esc1, Val.top, Val.d, Val.ds, shAll, shOf, shAll_map, p1, p2, gAdd, Wp.gSub, gMul, gMod, gNeg, gCmp, cmpF, cLt, cLe, cGt, cGe, gEq, gNe, gIsN, gSub2, gIx, gLen, gMx2, gMn2, gInt, gBits, truthD, dataR, fRng1, fRng2, fSeqI, fFor, gNm, gTp, gsCons, gsNil, itemsT, fCallN, callR, argAll, pass1, arg1, backAll, back1, Fi.dv, theta, List.map_cons, List.map_nil, List.length_cons, List.length_nil, List.cons_append, List.nil_append, List.append_nil, List.replicate_zero, List.replicate_succ, List.getElem?_cons_zero, List.getElem?_cons_succ, List.getElem?_nil, List.set_cons_zero, List.set_cons_succ, List.headD_cons, List.headD_nil, List.tail_cons, List.tail_nil, List.drop_nil, List.drop_zero, Option.map_some, Option.map_none, Option.bind_some, Option.bind_none, if_true, if_false, ite_true, ite_false, reduceIte, Bool.false_eq_true, Bool.true_and, Bool.and_true, Bool.false_and, Bool.and_false, Bool.or_true, Bool.true_or, Bool.or_false, Bool.false_or, Bool.not_true, Bool.not_false, decide_true, decide_false, List.contains_cons, List.elem_cons, List.elem_nil, Nat.reduceSub, Nat.reduceAdd, Nat.reduceLT, Nat.reduceLeDiff, Nat.reduceEqDiff, Nat.zero_add, Nat.add_zero, Nat.sub_self, Nat.le_refl]
  unfold F_Stair_height
  rw [semF_ret (x := .sh (.int (ht b cs n))) (η := [some (.sh (stD b cs)), some (.sh (.int n)), some (.sh (.int (ht b cs n))), x3, x4, x5]) ?_ (by simp)]
  · rfl
  · show fSeq _ _ [some (.sh (stD b cs)), some (.sh (.int n)), none, none, none, none] = _
    rw [fSeq_next h1, fSeq_next (by rw [fFor_ok hi]; exact hl)]
    exact h3
/-- the slope -/
def sl (cs : List Int) (n : Int) : Int := ((cs.filter fun c => decide (c ≤ n)).length : Int).fmod 2
def leV (n : Int) : Val → Bool
  | .sh (.int c) => decide (c ≤ n)
  | _ => false
end L43
end
section
set_option Elab.async false
set_option linter.all false
set_option maxRecDepth 100000
set_option maxHeartbeats 1000000
namespace L43
/-! P7: heights go up by the slope. -/
theorem ht_add (k : Int) : ∀ (cs : List Int) (b n : Int), ht (b + k) cs n = ht b cs n + k
  | [], b, n => by simp [ht]
  | [c], b, n => by simp only [ht]; omega
  | c :: d :: r, b, n => by
    simp only [ht]
    rw [show b + k + max (min n d - c) 0 = (b + max (min n d - c) 0) + k by omega, ht_add k r]
theorem ht_low : ∀ (cs : List Int) (b n : Int), cs.Pairwise (· < ·) → (∀ x ∈ cs, n ≤ x) → ht b cs n = b
  | [], b, n, _, _ => by simp [ht]
  | [c], b, n, _, h => by
    have := h c (by simp)
    simp only [ht]
    omega
  | c :: d :: r, b, n, hp, h => by
    have h1 := h c (by simp)
    simp only [ht]
    rw [show b + max (min n d - c) 0 = b by omega]
    exact ht_low r b n (List.pairwise_cons.mp (List.pairwise_cons.mp hp).2).2 fun x hx => h x (by simp [hx])
theorem fil_none {cs : List Int} {n : Int} (h : ∀ x ∈ cs, n < x) : (cs.filter fun c => decide (c ≤ n)) = [] := by
  rw [List.filter_eq_nil_iff]
  intro x hx
  have := h x hx
  simp
  omega
theorem sl_none {cs : List Int} {n : Int} (h : ∀ x ∈ cs, n < x) : sl cs n = 0 := by
  unfold sl
  rw [fil_none h]
  rfl
theorem ht_step : ∀ (cs : List Int) (b n : Int), cs.Pairwise (· < ·) → ht b cs (n + 1) = ht b cs n + sl cs n
  | [], b, n, _ => by simp [ht, sl]
  | [c], b, n, _ => by
    simp only [ht, sl]
    by_cases h : c ≤ n
    · rw [show ([c].filter fun c => decide (c ≤ n)) = [c] by simp [h]]
      have : (([c] : List Int).length : Int).fmod 2 = 1 := rfl
      rw [this]
      omega
    · rw [show ([c].filter fun c => decide (c ≤ n)) = [] by simp; omega]
      have : (([] : List Int).length : Int).fmod 2 = 0 := rfl
      rw [this]
      omega
  | c :: d :: r, b, n, hp => by
    obtain ⟨h1, h2⟩ := List.pairwise_cons.mp hp
    obtain ⟨h3, h4⟩ := List.pairwise_cons.mp h2
    have hcd := h1 d (by simp)
    simp only [ht]
    by_cases hd : d ≤ n
    · have e1 : min (n + 1) d = d := by omega
      have e2 : min n d = d := by omega
      rw [e1, e2, ht_step r _ n h4]
      congr 1
      unfold sl
      rw [show ((c :: d :: r).filter fun c => decide (c ≤ n)) = c :: d :: r.filter fun c => decide (c ≤ n) by
        rw [List.filter_cons_of_pos (by simp; omega), List.filter_cons_of_pos (by simpa using hd)]]
      simp only [List.length_cons, Int.natCast_add]
      rw [Int.fmod_eq_emod_of_nonneg _ (by decide), Int.fmod_eq_emod_of_nonneg _ (by decide)]
      omega
    · have hr : ∀ x ∈ r, n < x := fun x hx => by have := h3 x hx; omega
      rw [ht_low r _ (n + 1) h4 (fun x hx => by have := hr x hx; omega), ht_low r _ n h4 (fun x hx => by have := hr x hx; omega)]
      by_cases hc : c ≤ n
      · have e : sl (c :: d :: r) n = 1 := by
          unfold sl
          rw [List.filter_cons_of_pos (by simpa using hc), List.filter_cons_of_neg (by simpa using hd), fil_none hr]
          rfl
        rw [e]
        omega
      · rw [sl_none (fun x hx => by
          rcases List.mem_cons.mp hx with rfl | hx
          · omega
          · have := h1 x hx
            omega)]
        omega
theorem sl_bd (cs : List Int) (n : Int) : sl cs n = 0 ∨ sl cs n = 1 := by
  unfold sl
  rw [Int.fmod_eq_emod_of_nonneg _ (by decide)]
  omega
/-- slopes change at corners only -/
theorem sl_same {cs : List Int} {n : Int} (h : n + 1 ∉ cs) : sl cs (n + 1) = sl cs n := by
  unfold sl
  congr 3
  refine List.filter_congr fun x hx => ?_
  have : x ≠ n + 1 := fun z => h (z ▸ hx)
  simp
  omega
end L43
end
section
set_option Elab.async false
set_option linter.all false
set_option maxRecDepth 100000
set_option maxHeartbeats 1000000
namespace L43
open PySem PySem.Spec PyProof.Rows L2 Wp
theorem eqC_int (i j : Int) : eqC (.int i) (.int j) = some (decide (i = j)) := rfl
theorem shaped_intsT (ns : List Int) : SeqAt.shaped (.tuple (ns.map .int)) = true := by
  have := depth_ints ns
  simp only [SeqAt.shaped, PyData.canLay0, lay_ints, PyData.depth, Bool.true_and]
  exact decide_eq_true (by omega)
theorem eqC_tup (ns ms : List Int) : eqC (.tup (ns.map .int)) (.tup (ms.map .int)) = some (decide (ns = ms)) := by
  unfold eqC
  simp only [toPy, toPys_ints, Option.map_some, Option.bind_some, shaped_intsT, Bool.and_self, if_true, PyData.eqv, eqv_ints]
theorem isT_stair (b : Int) (cs : List Int) : isT bt_Stair ct_Stair (stD b cs) = some true := rfl
theorem F_eq (b1 b2 : Int) (c1 c2 : List Int) : F_Stair_eq [.sh (stD b1 c1), .sh (stD b2 c2)] = some (.ok (.sh (.bl (decide (b1 = b2) && decide (c1 = c2)))) [some (.sh (stD b1 c1)), some (.sh (stD b2 c2))]) := by
  have a1 : fAttr fc_base pt_base "base" (fVar 0) [some (.sh (stD b1 c1)), some (.sh (stD b2 c2))] = _ := at_base (b := b1) (cs := c1) rfl
  have a2 : fAttr fc_base pt_base "base" (fVar 1) [some (.sh (stD b1 c1)), some (.sh (stD b2 c2))] = _ := at_base (b := b2) (cs := c2) rfl
  have a3 : fAttr fc_turns pt_turns "turns" (fVar 0) [some (.sh (stD b1 c1)), some (.sh (stD b2 c2))] = _ := at_turns (b := b1) (cs := c1) rfl
  have a4 : fAttr fc_turns pt_turns "turns" (fVar 1) [some (.sh (stD b1 c1)), some (.sh (stD b2 c2))] = _ := at_turns (b := b2) (cs := c2) rfl
  have h3 : f2 (fAttr fc_turns pt_turns "turns" (fVar 0)) (fAttr fc_turns pt_turns "turns" (fVar 1)) (p2 gEq) [some (.sh (stD b1 c1)), some (.sh (stD b2 c2))] = some (.ok (.pend (.sh (.bl (decide (c1 = c2))))) [some (.sh (stD b1 c1)), some (.sh (stD b2 c2))]) := by
    simp only [semF, fRetM, fSeq, fSet, fIf, fNext, fRet, fRetN, fExpr, fPar, fAsg, f1, f2, fn, fVar, fLit, fCons, fNil, fIte, fBl, blOf, fTru, truR, fAndT, fOrT, fNotT, fAndV, fOrV, fNotV, fDisp, fSlice, fPart, fSetI, isOl, shList, escS, bindR_ok, bindR_some, bindR_exc, okR, appR, prepAll, prep1, escAll, esc1, Val.top, Val.d, Val.ds, shAll, shOf, shAll_map, p1, p2, gAdd, Wp.gSub, gMul, gMod, gNeg, gCmp, cmpF, cLt, cLe, cGt, cGe, gEq, gNe, gIsN, gSub2, gIx, gLen, gMx2, gMn2, gInt, gBits, truthD, dataR, fRng1, fRng2, fSeqI, fFor, gNm, gTp, gsCons, gsNil, itemsT, fCallN, callR, argAll, pass1, arg1, backAll, back1, Fi.dv, theta, List.map_cons, List.map_nil, List.length_cons, List.length_nil, List.cons_append, List.nil_append, List.append_nil, List.replicate_zero, List.replicate_succ, List.getElem?_cons_zero, List.getElem?_cons_succ, List.getElem?_nil, List.set_cons_zero, List.set_cons_succ, List.headD_cons, List.headD_nil, List.tail_cons, List.tail_nil, List.drop_nil, List.drop_zero, Option.map_some, Option.map_none, Option.bind_some, Option.bind_none, if_true, if_false, ite_true, ite_false, reduceIte, Bool.false_eq_true, Bool.true_and, Bool.and_true, Bool.false_and, Bool.and_false, Bool.or_true, Bool.true_or, Bool.or_false, Bool.false_or, Bool.not_true, Bool.not_false, decide_true, decide_false, List.contains_cons, List.elem_cons, List.elem_nil, Nat.reduceSub, Nat.reduceAdd, Nat.reduceLT, Nat.reduceLeDiff, Nat.reduceEqDiff, Nat.zero_add, Nat.add_zero, Nat.sub_self, Nat.le_refl, a3, a4, eqC_tup]
  have h2 : f2 (fAttr fc_base pt_base "base" (fVar 0)) (fAttr fc_base pt_base "base" (fVar 1)) (p2 gEq) [some (.sh (stD b1 c1)), some (.sh (stD b2 c2))] = some (.ok (.pend (.sh (.bl (decide (b1 = b2))))) [some (.sh (stD b1 c1)), some (.sh (stD b2 c2))]) := by
    simp only [semF, fRetM, fSeq, fSet, fIf, fNext, fRet, fRetN, fExpr, fPar, fAsg, f1, f2, fn, fVar, fLit, fCons, fNil, fIte, fBl, blOf, fTru, truR, fAndT, fOrT, fNotT, fAndV, fOrV, fNotV, fDisp, fSlice, fPart, fSetI, isOl, shList, escS, bindR_ok, bindR_some, bindR_exc, okR, appR, prepAll, prep1, escAll, esc1, Val.top, Val.d, Val.ds, shAll, shOf, shAll_map, p1, p2, gAdd, Wp.gSub, gMul, gMod, gNeg, gCmp, cmpF, cLt, cLe, cGt, cGe, gEq, gNe, gIsN, gSub2, gIx, gLen, gMx2, gMn2, gInt, gBits, truthD, dataR, fRng1, fRng2, fSeqI, fFor, gNm, gTp, gsCons, gsNil, itemsT, fCallN, callR, argAll, pass1, arg1, backAll, back1, Fi.dv, theta, List.map_cons, List.map_nil, List.length_cons, List.length_nil, List.cons_append, List.nil_append, List.append_nil, List.replicate_zero, List.replicate_succ, List.getElem?_cons_zero, List.getElem?_cons_succ, List.getElem?_nil, List.set_cons_zero, List.set_cons_succ, List.headD_cons, List.headD_nil, List.tail_cons, List.tail_nil, List.drop_nil, List.drop_zero, Option.map_some, Option.map_none, Option.bind_some, Option.bind_none, if_true, if_false, ite_true, ite_false, reduceIte, Bool.false_eq_true, Bool.true_and, Bool.and_true, Bool.false_and, Bool.and_false, Bool.or_true, Bool.true_or, Bool.or_false, Bool.false_or, Bool.not_true, Bool.not_false, decide_true, decide_false, List.contains_cons, List.elem_cons, List.elem_nil, Nat.reduceSub, Nat.reduceAdd, Nat.reduceLT, Nat.reduceLeDiff, Nat.reduceEqDiff, Nat.zero_add, Nat.add_zero, Nat.sub_self, Nat.le_refl, a1, a2, eqC_int]
  have h1 : f1 (fVar 1) (p1 (gIsi bt_Stair ct_Stair)) [some (.sh (stD b1 c1)), some (.sh (stD b2 c2))] = some (.ok (.pend (.sh (.bl true))) [some (.sh (stD b1 c1)), some (.sh (stD b2 c2))]) := by
    simp only [semF, fRetM, fSeq, fSet, fIf, fNext, fRet, fRetN, fExpr, fPar, fAsg, f1, f2, fn, fVar, fLit, fCons, fNil, fIte, fBl, blOf, fTru, truR, fAndT, fOrT, fNotT, fAndV, fOrV, fNotV, fDisp, fSlice, fPart, fSetI, isOl, shList, escS, bindR_ok, bindR_some, bindR_exc, okR, appR, prepAll, prep1, escAll, esc1, Val.top, Val.d, Val.ds, shAll, shOf, shAll_map, p1, p2, gAdd, Wp.gSub, gMul, gMod, gNeg, gCmp, cmpF, cLt, cLe, cGt, cGe, gEq, gNe, gIsN, gSub2, gIx, gLen, gMx2, gMn2, gInt, gBits, truthD, dataR, fRng1, fRng2, fSeqI, fFor, gNm, gTp, gsCons, gsNil, itemsT, fCallN, callR, argAll, pass1, arg1, backAll, back1, Fi.dv, theta, List.map_cons, List.map_nil, List.length_cons, List.length_nil, List.cons_append, List.nil_append, List.append_nil, List.replicate_zero, List.replicate_succ, List.getElem?_cons_zero, List.getElem?_cons_succ, List.getElem?_nil, List.set_cons_zero, List.set_cons_succ, List.headD_cons, List.headD_nil, List.tail_cons, List.tail_nil, List.drop_nil, List.drop_zero, Option.map_some, Option.map_none, Option.bind_some, Option.bind_none, if_true, if_false, ite_true, ite_false, reduceIte, Bool.false_eq_true, Bool.true_and, Bool.and_true, Bool.false_and, Bool.and_false, Bool.or_true, Bool.true_or, Bool.or_false, Bool.false_or, Bool.not_true, Bool.not_false, decide_true, decide_false, List.contains_cons, List.elem_cons, List.elem_nil, Nat.reduceSub, Nat.reduceAdd, Nat.reduceLT, Nat.reduceLeDiff, Nat.reduceEqDiff, Nat.zero_add, Nat.add_zero, Nat.sub_self, Nat.le_refl, gIsi, isT_stair]
  unfold F_Stair_eq
  rw [semF_ret (x := .sh (.bl (decide (b1 = b2) && decide (c1 = c2)))) (η := [some (.sh (stD b1 c1)), some (.sh (stD b2 c2))]) ?_ (by simp)]
  · rfl
  · show fRet _ [some (.sh (stD b1 c1)), some (.sh (stD b2 c2))] = _
    unfold fRet fAndV
    rw [h1]
    simp only [bindR_some, blOf, bindR_ok, if_true, fAndV]
    rw [h2]
    simp only [bindR_some, blOf, bindR_ok]
    cases decide (b1 = b2) with
    | true =>
      simp only [if_true]
      rw [h3]
      simp only [bindR_some, esc1, okR, Bool.true_and]
    | false =>
      simp only [Bool.false_eq_true, if_false, okR, bindR_some, esc1, Bool.false_and]
end L43
namespace L43
open PySem PySem.Spec PyProof.Rows L2 Wp
theorem f2_pp {fa fb : FO} {g : D → D → Option Val} {η : Wp.Env} {x y z : Val} (h1 : fa η = some (.ok (.pend x) η)) (h2 : fb η = some (.ok (.pend y) η)) (hg : g x.d y.d = some z) : f2 fa fb (p2 g) η = some (.ok (.pend z) η) := by
  unfold f2
  rw [h1, bindR_some, h2, bindR_some]
  simp only [appR, prepAll, prep1, p2, hg, okR]
theorem fBl_val {f : FO} {η : Wp.Env} {b : Bool} (h : f η = some (.ok (.pend (.sh (.bl b))) η)) : fBl f η = some (.ok b η) := by
  unfold fBl
  rw [h, bindR_some]
  rfl
theorem fIf_t {c : FT} {f g : FS} {η : Wp.Env} (h : c η = some (.ok true η)) : fIf c f g η = f η := by
  unfold fIf
  rw [h, bindR_some]
  rfl
theorem fIf_f {c : FT} {f g : FS} {η : Wp.Env} (h : c η = some (.ok false η)) : fIf c f g η = g η := by
  unfold fIf
  rw [h, bindR_some]
  rfl
theorem loop_next {g : FG} {body : FS} {y : Val} {ys : List Val} {η η1 η2 : Wp.Env} (hg : g y η = some η1) (hb : body η1 = some (.ok .next η2)) : loopF g body (y :: ys) η = loopF g body ys η2 := by
  simp only [loopF, hg, hb, Wp.bindL]
theorem loop_ret {g : FG} {body : FS} {y : Val} {ys : List Val} {η η1 η2 : Wp.Env} {x : Val} (hg : g y η = some η1) (hb : body η1 = some (.ok (.ret x) η2)) : loopF g body (y :: ys) η = some (.ok (.ret x) η2) := by
  simp only [loopF, hg, hb, Wp.bindL]
end L43
namespace L43
open PySem PySem.Spec PyProof.Rows L2 Wp
theorem fCallN1_val {i : Fi} {F : FF} {ms : List Bool} {fa : FO} {η η1 η2 : Wp.Env} {o : Opv} {xs : List Val} {x : Val} {θ : Wp.Env} (hi : i = ⟨F, 1, ms, []⟩) (h : fa η = some (.ok o η)) (ha : argAll ms [o] η = some (xs, η1)) (hF : F xs = some (.ok x θ)) (hb : backAll [o] θ η1 = η2) : fCallN i 1 (fCons fa fNil) η = some (.ok (.pend x) η2) := by
  subst hi hb
  unfold fCallN
  simp only [fCons, h, bindR_some, fNil, bindR_ok, List.length_cons, List.length_nil, if_true, dv_nil]
  exact callR_val ha rfl hF
theorem fEqO_val {mt : Nat → Option Fi} {F : FF} {ms : List Bool} {fa fb : FO} {η η1 η2 : Wp.Env} {o p : Opv} {c : Nat} {fs : List Str} {xs : List Val} {b : Bool} {θ : Wp.Env} (h1 : fa η = some (.ok o η)) (h2 : fb η = some (.ok p η)) (hc : o.cls η = some (c, fs)) (hc2 : p.cls η = some (c, fs)) (hi : mt c = some ⟨F, 2, ms, []⟩)
    (ha : argAll ms [o, p] η = some (xs, η1)) (hF : F xs = some (.ok (.sh (.bl b)) θ)) (hb : backAll [o, p] θ η1 = η2) : fEqO mt fa fb η = some (.ok (.pend (.sh (.bl b))) η2) := by
  subst hb
  unfold fEqO
  rw [h1, bindR_some, h2, bindR_some]
  simp only [hc, hc2, if_true, hi, dv_nil]
  rw [callR_val (n := 2) ha rfl hF]
  rfl
theorem fExpr_val {f : FO} {η η1 : Wp.Env} {o : Opv} (h : f η = some (.ok o η1)) : fExpr f η = some (.ok .next η1) := by
  unfold fExpr
  rw [h, bindR_some]
  rfl
theorem fSeq_ret {f g : FS} {η η1 : Wp.Env} {x : Val} (h : f η = some (.ok (.ret x) η1)) : fSeq f g η = some (.ok (.ret x) η1) := by
  unfold fSeq
  rw [h, bindR_some]
  rfl
end L43
namespace L43
open PySem PySem.Spec PyProof.Rows L2 Wp
theorem isT_int_int (n : Int) : isT bt_int ct_int (.int n) = some true := rfl
theorem isT_bool_int (n : Int) : isT bt_bool ct_bool (.int n) = some false := rfl
theorem isT_list (ds : List D) : isT bt_list ct_list (.lst ds) = some true := rfl
theorem F_whole (n : Int) : F_is_whole [.sh (.int n)] = some (.ok (.sh (.bl true)) [some (.sh (.int n))]) := by
  have h1 : f1 (fVar 0) (p1 (gIsi bt_int ct_int)) [some (.sh (.int n))] = some (.ok (.pend (.sh (.bl true))) [some (.sh (.int n))]) := by simp only [semF, fRetM, fSeq, fSet, fIf, fNext, fRet, fRetN, fExpr, fPar, fAsg, f1, f2, fn, fVar, fLit, fCons, fNil, fIte, fBl, blOf, fTru, truR, fAndT, fOrT, fNotT, fAndV, fOrV, fNotV, fDisp, fSlice, fPart, fSetI, isOl, shList, escS, bindR_ok, bindR_some, bindR_exc, okR, appR, prepAll, prep1, escAll, esc1, Val.top, Val.d, Val.ds, shAll, shOf, shAll_map, p1, p2, gAdd, Wp.gSub, gMul, gMod, gNeg, gCmp, cmpF, cLt, cLe, cGt, cGe, gEq, gNe, gIsN, gSub2, gIx, gLen, gMx2, gMn2, gInt, gBits, truthD, dataR, fRng1, fRng2, fSeqI, fFor, gNm, gTp, gsCons, gsNil, itemsT, fCallN, callR, argAll, pass1, arg1, backAll, back1, Fi.dv, theta, List.map_cons, List.map_nil, List.length_cons, List.length_nil, List.cons_append, List.nil_append, List.append_nil, List.replicate_zero, List.replicate_succ, List.getElem?_cons_zero, List.getElem?_cons_succ, List.getElem?_nil, List.set_cons_zero, List.set_cons_succ, List.headD_cons, List.headD_nil, List.tail_cons, List.tail_nil, List.drop_nil, List.drop_zero, Option.map_some, Option.map_none, Option.bind_some, Option.bind_none, if_true, if_false, ite_true, ite_false, reduceIte, Bool.false_eq_true, Bool.true_and, Bool.and_true, Bool.false_and, Bool.and_false, Bool.or_true, Bool.true_or, Bool.or_false, Bool.false_or, Bool.not_true, Bool.not_false, decide_true, decide_false, List.contains_cons, List.elem_cons, List.elem_nil, Nat.reduceSub, Nat.reduceAdd, Nat.reduceLT, Nat.reduceLeDiff, Nat.reduceEqDiff, Nat.zero_add, Nat.add_zero, Nat.sub_self, Nat.le_refl, gIsi, isT_int_int]
  have h2 : f1 (fVar 0) (p1 (gIsi bt_bool ct_bool)) [some (.sh (.int n))] = some (.ok (.pend (.sh (.bl false))) [some (.sh (.int n))]) := by simp only [semF, fRetM, fSeq, fSet, fIf, fNext, fRet, fRetN, fExpr, fPar, fAsg, f1, f2, fn, fVar, fLit, fCons, fNil, fIte, fBl, blOf, fTru, truR, fAndT, fOrT, fNotT, fAndV, fOrV, fNotV, fDisp, fSlice, fPart, fSetI, isOl, shList, escS, bindR_ok, bindR_some, bindR_exc, okR, appR, prepAll, prep1, escAll, esc1, Val.top, Val.d, Val.ds, shAll, shOf, shAll_map, p1, p2, gAdd, Wp.gSub, gMul, gMod, gNeg, gCmp, cmpF, cLt, cLe, cGt, cGe, gEq, gNe, gIsN, gSub2, gIx, gLen, gMx2, gMn2, gInt, gBits, truthD, dataR, fRng1, fRng2, fSeqI, fFor, gNm, gTp, gsCons, gsNil, itemsT, fCallN, callR, argAll, pass1, arg1, backAll, back1, Fi.dv, theta, List.map_cons, List.map_nil, List.length_cons, List.length_nil, List.cons_append, List.nil_append, List.append_nil, List.replicate_zero, List.replicate_succ, List.getElem?_cons_zero, List.getElem?_cons_succ, List.getElem?_nil, List.set_cons_zero, List.set_cons_succ, List.headD_cons, List.headD_nil, List.tail_cons, List.tail_nil, List.drop_nil, List.drop_zero, Option.map_some, Option.map_none, Option.bind_some, Option.bind_none, if_true, if_false, ite_true, ite_false, reduceIte, Bool.false_eq_true, Bool.true_and, Bool.and_true, Bool.false_and, Bool.and_false, Bool.or_true, Bool.true_or, Bool.or_false, Bool.false_or, Bool.not_true, Bool.not_false, decide_true, decide_false, List.contains_cons, List.elem_cons, List.elem_nil, Nat.reduceSub, Nat.reduceAdd, Nat.reduceLT, Nat.reduceLeDiff, Nat.reduceEqDiff, Nat.zero_add, Nat.add_zero, Nat.sub_self, Nat.le_refl, gIsi, isT_bool_int]
  unfold F_is_whole
  rw [semF_ret (x := .sh (.bl true)) (η := [some (.sh (.int n))]) ?_ (by simp)]
  · rfl
  · show fRet _ [some (.sh (.int n))] = _
    unfold fRet fAndV fNotV
    rw [h1]
    simp only [bindR_some, blOf, bindR_ok, if_true]
    rw [h2]
    rfl
theorem semF_next {n len : Nat} {kp : List Nat} {raw : Bool} {fb : FS} {xs : List Val} {η : Wp.Env} (h : fb (xs.map some ++ List.replicate (len - xs.length) none) = some (.ok .next η)) (hn : n ≤ η.length) : semF n len kp raw fb xs = some (.ok (.sh .non) (theta kp 0 n η)) := by
  unfold semF
  rw [h]
  simp only [if_pos hn]
theorem F_chkw (n : Int) : F_check_whole [.sh (.int n)] = some (.ok (.sh .non) [some (.sh (.int n))]) := by
  have h : fCallN i_is_whole 1 (fCons (fVar 0) fNil) [some (.sh (.int n))] = some (.ok (.pend (.sh (.bl true))) [some (.sh (.int n))]) := fCallN1_val (o := .slot 0) (F := F_is_whole) (ms := [false]) (xs := [.sh (.int n)]) (η1 := [some (.sh (.int n))]) rfl rfl rfl (F_whole n) rfl
  have h2 : fNotT (fTru (fCallN i_is_whole 1 (fCons (fVar 0) fNil))) [some (.sh (.int n))] = some (.ok false [some (.sh (.int n))]) := by
    unfold fNotT fTru
    rw [h]
    rfl
  unfold F_check_whole
  rw [semF_next (η := [some (.sh (.int n))]) ?_ (by simp)]
  · rfl
  · show fIf _ _ _ [some (.sh (.int n))] = _
    rw [fIf_f h2]
    rfl
theorem F_count {n : Int} (hn : 0 ≤ n) : F_is_count [.sh (.int n)] = some (.ok (.sh (.bl true)) [some (.sh (.int n))]) := by
  have h : fCallN i_is_whole 1 (fCons (fVar 0) fNil) [some (.sh (.int n))] = some (.ok (.pend (.sh (.bl true))) [some (.sh (.int n))]) := fCallN1_val (o := .slot 0) (F := F_is_whole) (ms := [false]) (xs := [.sh (.int n)]) (η1 := [some (.sh (.int n))]) rfl rfl rfl (F_whole n) rfl
  have hd : decide (0 ≤ n) = true := decide_eq_true hn
  have h2 : f2 (fVar 0) (fLit (.int 0)) (p2 (gCmp (cmpF .GtE))) [some (.sh (.int n))] = some (.ok (.pend (.sh (.bl true))) [some (.sh (.int n))]) := by simp only [semF, fRetM, fSeq, fSet, fIf, fNext, fRet, fRetN, fExpr, fPar, fAsg, f1, f2, fn, fVar, fLit, fCons, fNil, fIte, fBl, blOf, fTru, truR, fAndT, fOrT, fNotT, fAndV, fOrV, fNotV, fDisp, fSlice, fPart, fSetI, isOl, shList, escS, bindR_ok, bindR_some, bindR_exc, okR, appR, prepAll, prep1, escAll, esc1, Val.top, Val.d, Val.ds, shAll, shOf, shAll_map, p1, p2, gAdd, Wp.gSub, gMul, gMod, gNeg, gCmp, cmpF, cLt, cLe, cGt, cGe, gEq, gNe, gIsN, gSub2, gIx, gLen, gMx2, gMn2, gInt, gBits, truthD, dataR, fRng1, fRng2, fSeqI, fFor, gNm, gTp, gsCons, gsNil, itemsT, fCallN, callR, argAll, pass1, arg1, backAll, back1, Fi.dv, theta, List.map_cons, List.map_nil, List.length_cons, List.length_nil, List.cons_append, List.nil_append, List.append_nil, List.replicate_zero, List.replicate_succ, List.getElem?_cons_zero, List.getElem?_cons_succ, List.getElem?_nil, List.set_cons_zero, List.set_cons_succ, List.headD_cons, List.headD_nil, List.tail_cons, List.tail_nil, List.drop_nil, List.drop_zero, Option.map_some, Option.map_none, Option.bind_some, Option.bind_none, if_true, if_false, ite_true, ite_false, reduceIte, Bool.false_eq_true, Bool.true_and, Bool.and_true, Bool.false_and, Bool.and_false, Bool.or_true, Bool.true_or, Bool.or_false, Bool.false_or, Bool.not_true, Bool.not_false, decide_true, decide_false, List.contains_cons, List.elem_cons, List.elem_nil, Nat.reduceSub, Nat.reduceAdd, Nat.reduceLT, Nat.reduceLeDiff, Nat.reduceEqDiff, Nat.zero_add, Nat.add_zero, Nat.sub_self, Nat.le_refl, hd]
  unfold F_is_count
  rw [semF_ret (x := .sh (.bl true)) (η := [some (.sh (.int n))]) ?_ (by simp)]
  · rfl
  · show fRet _ [some (.sh (.int n))] = _
    unfold fRet fAndV
    rw [h]
    simp only [bindR_some, blOf, bindR_ok, if_true]
    rw [h2]
    rfl
end L43
namespace L43
open PySem PySem.Spec PyProof.Rows L2 Wp
theorem set_same' {η : Wp.Env} {k : Nat} {y : Val} (e : η[k]? = some (some y)) : η.set k (some y) = η := by
  refine List.ext_getElem? fun m => ?_
  by_cases hm : m = k
  · subst hm
    rw [List.getElem?_set_self (List.getElem?_eq_some_iff.mp e).1, e]
  · rw [List.getElem?_set_ne (Ne.symm hm)]
theorem atI_end {xs : List Int} {l : Int} (h : xs.getLast? = some l) : atI (xs.map D.int) (-1) = some (.int l) := by
  obtain ⟨ys, rfl⟩ := List.getLast?_eq_some_iff.mp h
  rw [List.map_append]
  exact atI_last _ _
end L43
namespace L43
open PySem PySem.Spec PyProof.Rows L2 Wp
theorem fn1_p {f : FO} {g : D → Option Val} {η : Wp.Env} {x z : Val} (h : f η = some (.ok (.pend x) η)) (hg : g x.d = some z) : fn (fCons f fNil) (p1 g) η = some (.ok (.pend z) η) := by
  unfold fn
  simp only [fCons, h, bindR_some, fNil, bindR_ok, appR, prepAll, prep1, p1, hg, okR]
end L43
end
section
set_option Elab.async false
set_option linter.all false
set_option maxRecDepth 100000
set_option maxHeartbeats 1000000
namespace L43
open PySem PySem.Spec PyProof.Rows L2 Wp
/-- the first comprehension of are_corners: no number of cs is no count -/
theorem ac_list1 (cs : List Int) (hc : ∀ c ∈ cs, 0 ≤ c) (hz : cs.length < 900) : fLc 3 [1] (fSeqI (fVar 0)) (gNm 1) (fNotT (fTru (fCallN i_is_count 1 (fCons (fVar 1) fNil)))) (fVar 1)
    [some (.sh (il cs)), none, none] = some (.ok (.pend (.ol [])) [some (.sh (il cs)), none, none]) := by
  have hi : fSeqI (fVar 0) [some (.sh (il cs)), none, none] = some (.ok ((cs.map D.int).map .sh) [some (.sh (il cs)), none, none]) := rfl
  unfold fLc
  rw [hi, bindR_some, if_pos (by rfl)]
  have hw : wipeE [some (.sh (il cs)), none, none] [1] = [some (.sh (il cs)), none, none] := rfl
  rw [hw, loopC_pure (fun _ => false) id]
  · simp
  · rw [sizeLine_eq]
    simp
    omega
  · intro y hy
    obtain ⟨c, hcm, rfl⟩ : ∃ c, c ∈ cs ∧ y = .sh (.int c) := by
      simp only [List.map_map, List.mem_map, Function.comp_apply] at hy
      obtain ⟨c, h, rfl⟩ := hy
      exact ⟨c, h, rfl⟩
    have h : fCallN i_is_count 1 (fCons (fVar 1) fNil) [some (.sh (il cs)), some (.sh (.int c)), none] = some (.ok (.pend (.sh (.bl true))) [some (.sh (il cs)), some (.sh (.int c)), none]) :=
      fCallN1_val (o := .slot 1) (F := F_is_count) (ms := [false]) (xs := [.sh (.int c)]) (η1 := [some (.sh (il cs)), some (.sh (.int c)), none]) rfl rfl rfl (F_count (hc c hcm)) rfl
    refine ⟨[some (.sh (il cs)), some (.sh (.int c)), none], rfl, rfl, [some (.sh (il cs)), some (.sh (.int c)), none], ?_, (fun z => Bool.noConfusion z), fun _ => rfl⟩
    unfold fNotT fTru
    rw [h]
    rfl
end L43
end
section
set_option Elab.async false
set_option linter.all false
set_option maxRecDepth 100000
set_option maxHeartbeats 1000000
namespace L43
open PySem PySem.Spec PyProof.Rows L2 Wp
theorem fRng2_ok {g : FL} {η η2 : Wp.Env} {i j : Int} (hd : dataR 2 g η = some (.ok [.int i, .int j] η2)) (h1 : small62 i = true) (h2 : small62 j = true) : fRng2 g η = some (.ok (rngV i (j - i).toNat) η2) := by
  unfold fRng2
  rw [hd, bindR_some]
  simp only [h1, h2, Bool.and_self, if_true]
  rfl
theorem ac_d (cs : List Int) (x1 x2 : Option Val) : dataR 2 (fCons (fLit (.int 1)) (fCons (fn (fCons (fVar 0) fNil) (p1 gLen)) fNil)) [some (.sh (il cs)), x1, x2] = some (.ok [.int 1, .int cs.length] [some (.sh (il cs)), x1, x2]) := by
    unfold il
    simp only [semF, fRetM, fSeq, fSet, fIf, fNext, fRet, fRetN, fExpr, fPar, fAsg, f1, f2, fn, fVar, fLit, fCons, fNil, fIte, fBl, blOf, fTru, truR, fAndT, fOrT, fNotT, fAndV, fOrV, fNotV, fDisp, fSlice, fPart, fSetI, isOl, shList, escS, bindR_ok, bindR_some, bindR_exc, okR, appR, prepAll, prep1, escAll, esc1, Val.top, Val.d, Val.ds, shAll, shOf, shAll_map, p1, p2, gAdd, Wp.gSub, gMul, gMod, gNeg, gCmp, cmpF, cLt, cLe, cGt, cGe, gEq, gNe, gIsN, gSub2, gIx, gLen, gMx2, gMn2, gInt, gBits, truthD, dataR, fRng1, fRng2, fSeqI, fFor, gNm, gTp, gsCons, gsNil, itemsT, fCallN, callR, argAll, pass1, arg1, backAll, back1, Fi.dv, theta, List.map_cons, List.map_nil, List.length_cons, List.length_nil, List.cons_append, List.nil_append, List.append_nil, List.replicate_zero, List.replicate_succ, List.getElem?_cons_zero, List.getElem?_cons_succ, List.getElem?_nil, List.set_cons_zero, List.set_cons_succ, List.headD_cons, List.headD_nil, List.tail_cons, List.tail_nil, List.drop_nil, List.drop_zero, Option.map_some, Option.map_none, Option.bind_some, Option.bind_none, if_true, if_false, ite_true, ite_false, reduceIte, Bool.false_eq_true, Bool.true_and, Bool.and_true, Bool.false_and, Bool.and_false, Bool.or_true, Bool.true_or, Bool.or_false, Bool.false_or, Bool.not_true, Bool.not_false, decide_true, decide_false, List.contains_cons, List.elem_cons, List.elem_nil, Nat.reduceSub, Nat.reduceAdd, Nat.reduceLT, Nat.reduceLeDiff, Nat.reduceEqDiff, Nat.zero_add, Nat.add_zero, Nat.sub_self, Nat.le_refl, List.length_map]
theorem inc_lt {cs : List Int} (h : cs.Pairwise (· < ·)) {i j : Nat} {x y : Int} (hij : i < j) (h1 : cs[i]? = some x) (h2 : cs[j]? = some y) : x < y := by
  obtain ⟨k1, rfl⟩ := List.getElem?_eq_some_iff.mp h1
  obtain ⟨k2, rfl⟩ := List.getElem?_eq_some_iff.mp h2
  exact List.pairwise_iff_getElem.mp h i j k1 k2 hij
theorem at_v (cs : List Int) {η : Wp.Env} {n x : Int} {f : FO} (h0 : fVar 0 η = some (.ok (.slot 0) η)) (hη : η[0]? = some (some (.sh (il cs)))) (hf : f η = some (.ok (.pend (.sh (.int n))) η)) (h : atI cs n = some x) : f2 (fVar 0) f (p2 gSub2) η = some (.ok (.pend (.sh (.int x))) η) := by
  have hg : gSub2 (il cs) (.int n) = some (.sh (.int x)) := by
    show (atI (cs.map D.int) n).map Val.sh = _
    rw [atI_map, h]
    rfl
  unfold f2
  rw [h0, bindR_some, hf, bindR_some]
  simp only [appR, prepAll, prep1, p2, hη, Val.top, Val.d, hg, okR]
/-- the second comprehension of are_corners: no number of cs is at most the one before -/
theorem ac_list2 (cs : List Int) (hc : Inc cs) (hz : cs.length < 900) : fLc 3 [2] (fRng2 (fCons (fLit (.int 1)) (fCons (fn (fCons (fVar 0) fNil) (p1 gLen)) fNil))) (gNm 2) (fBl (f2 (f2 (fVar 0) (fVar 2) (p2 gSub2)) (f2 (fVar 0) (f2 (fVar 2) (fLit (.int 1)) (p2 Wp.gSub)) (p2 gSub2)) (p2 (gCmp (cmpF .LtE))))) (fVar 2)
    [some (.sh (il cs)), none, none] = some (.ok (.pend (.ol [])) [some (.sh (il cs)), none, none]) := by
  have hs : small62 (cs.length : Int) = true := by unfold small62; exact decide_eq_true (by omega)
  unfold fLc
  rw [fRng2_ok (ac_d cs none none) (by decide) hs, bindR_some, if_pos (by rfl)]
  have hw : wipeE [some (.sh (il cs)), none, none] [2] = [some (.sh (il cs)), none, none] := rfl
  rw [hw, loopC_pure (fun _ => false) id]
  · simp
  · rw [sizeLine_eq, rngV_len]
    simp
    omega
  · intro y hy
    obtain ⟨i, hi, rfl⟩ : ∃ i : Nat, i < ((cs.length : Int) - 1).toNat ∧ y = .sh (.int (1 + i)) := by
      unfold rngV at hy
      simp only [List.mem_map, List.mem_range] at hy
      obtain ⟨i, h, rfl⟩ := hy
      exact ⟨i, h, rfl⟩
    have e2 : fVar 2 [some (.sh (il cs)), none, some (.sh (.int (1 + i)))] = some (.ok (.slot 2) [some (.sh (il cs)), none, some (.sh (.int (1 + i)))]) := rfl
    obtain ⟨x, x1, x2, x3⟩ := atI_some (ns := cs) (i := 1 + (i : Int)) (by omega) (by omega)
    obtain ⟨z, z1, z2, z3⟩ := atI_some (ns := cs) (i := (i : Int)) (by omega) (by omega)
    have hlt : z < x := inc_lt hc.1 (by omega) z3 x3
    have h1 : f2 (fVar 0) (fVar 2) (p2 gSub2) [some (.sh (il cs)), none, some (.sh (.int (1 + i)))] = some (.ok (.pend (.sh (.int x))) [some (.sh (il cs)), none, some (.sh (.int (1 + i)))]) := by
      have hg : gSub2 (il cs) (.int (1 + i)) = some (.sh (.int x)) := by
        show (atI (cs.map D.int) (1 + i)).map Val.sh = _
        rw [atI_map, x1]
        rfl
      show (match gSub2 (il cs) (.int (1 + i)) with | some v => _ | none => _) = _
      rw [hg]
      rfl
    have h3 : f2 (fVar 2) (fLit (.int 1)) (p2 Wp.gSub) [some (.sh (il cs)), none, some (.sh (.int (1 + i)))] = some (.ok (.pend (.sh (.int i))) [some (.sh (il cs)), none, some (.sh (.int (1 + i)))]) := by
      have hz : (1 + (i : Int)) - 1 = i := by omega
      simp only [semF, fRetM, fSeq, fSet, fIf, fNext, fRet, fRetN, fExpr, fPar, fAsg, f1, f2, fn, fVar, fLit, fCons, fNil, fIte, fBl, blOf, fTru, truR, fAndT, fOrT, fNotT, fAndV, fOrV, fNotV, fDisp, fSlice, fPart, fSetI, isOl, shList, escS, bindR_ok, bindR_some, bindR_exc, okR, appR, prepAll, prep1, escAll, esc1, Val.top, Val.d, Val.ds, shAll, shOf, shAll_map, p1, p2, gAdd, Wp.gSub, gMul, gMod, gNeg, gCmp, cmpF, cLt, cLe, cGt, cGe, gEq, gNe, gIsN, gSub2, gIx, gLen, gMx2, gMn2, gInt, gBits, truthD, dataR, fRng1, fRng2, fSeqI, fFor, gNm, gTp, gsCons, gsNil, itemsT, fCallN, callR, argAll, pass1, arg1, backAll, back1, Fi.dv, theta, List.map_cons, List.map_nil, List.length_cons, List.length_nil, List.cons_append, List.nil_append, List.append_nil, List.replicate_zero, List.replicate_succ, List.getElem?_cons_zero, List.getElem?_cons_succ, List.getElem?_nil, List.set_cons_zero, List.set_cons_succ, List.headD_cons, List.headD_nil, List.tail_cons, List.tail_nil, List.drop_nil, List.drop_zero, Option.map_some, Option.map_none, Option.bind_some, Option.bind_none, if_true, if_false, ite_true, ite_false, reduceIte, Bool.false_eq_true, Bool.true_and, Bool.and_true, Bool.false_and, Bool.and_false, Bool.or_true, Bool.true_or, Bool.or_false, Bool.false_or, Bool.not_true, Bool.not_false, decide_true, decide_false, List.contains_cons, List.elem_cons, List.elem_nil, Nat.reduceSub, Nat.reduceAdd, Nat.reduceLT, Nat.reduceLeDiff, Nat.reduceEqDiff, Nat.zero_add, Nat.add_zero, Nat.sub_self, Nat.le_refl, hz]
    have h4 := at_v cs (η := [some (.sh (il cs)), none, some (.sh (.int (1 + i)))]) rfl rfl h3 z1
    have hcmp : gCmp (cmpF .LtE) (.int x) (.int z) = some (.sh (.bl false)) := by
      show some (Val.sh (D.bl (decide (x ≤ z)))) = _
      rw [decide_eq_false (by omega)]
    have h5 := fBl_val (f2_pp h1 h4 hcmp)
    exact ⟨[some (.sh (il cs)), none, some (.sh (.int (1 + i)))], rfl, rfl, [some (.sh (il cs)), none, some (.sh (.int (1 + i)))], h5, (fun z => Bool.noConfusion z), fun _ => rfl⟩
end L43
end
section
set_option Elab.async false
set_option linter.all false
set_option maxRecDepth 100000
set_option maxHeartbeats 1000000
namespace L43
open PySem PySem.Spec PyProof.Rows L2 Wp
theorem emp_v {η : Wp.Env} : fDisp .ol fNil η = some (.ok (.pend (.ol [])) η) := by
  unfold fDisp
  show bindR (some (.ok [] η)) _ = _
  rw [bindR_some]
  rfl
theorem F_areC (cs : List Int) (hc : Inc cs) (hz : cs.length < 900) :
    F_are_corners [.sh (il cs)] = some (.ok (.sh (.bl true)) [some (.sh (il cs))]) := by
  have hl : f1 (fVar 0) (p1 (gIsi bt_list ct_list)) [some (.sh (il cs)), none, none] = some (.ok (.pend (.sh (.bl true))) [some (.sh (il cs)), none, none]) := by
    unfold il
    simp only [semF, fRetM, fSeq, fSet, fIf, fNext, fRet, fRetN, fExpr, fPar, fAsg, f1, f2, fn, fVar, fLit, fCons, fNil, fIte, fBl, blOf, fTru, truR, fAndT, fOrT, fNotT, fAndV, fOrV, fNotV, fDisp, fSlice, fPart, fSetI, isOl, shList, escS, bindR_ok, bindR_some, bindR_exc, okR, appR, prepAll, prep1, escAll, esc1, Val.top, Val.d, Val.ds, shAll, shOf, shAll_map, p1, p2, gAdd, Wp.gSub, gMul, gMod, gNeg, gCmp, cmpF, cLt, cLe, cGt, cGe, gEq, gNe, gIsN, gSub2, gIx, gLen, gMx2, gMn2, gInt, gBits, truthD, dataR, fRng1, fRng2, fSeqI, fFor, gNm, gTp, gsCons, gsNil, itemsT, fCallN, callR, argAll, pass1, arg1, backAll, back1, Fi.dv, theta, List.map_cons, List.map_nil, List.length_cons, List.length_nil, List.cons_append, List.nil_append, List.append_nil, List.replicate_zero, List.replicate_succ, List.getElem?_cons_zero, List.getElem?_cons_succ, List.getElem?_nil, List.set_cons_zero, List.set_cons_succ, List.headD_cons, List.headD_nil, List.tail_cons, List.tail_nil, List.drop_nil, List.drop_zero, Option.map_some, Option.map_none, Option.bind_some, Option.bind_none, if_true, if_false, ite_true, ite_false, reduceIte, Bool.false_eq_true, Bool.true_and, Bool.and_true, Bool.false_and, Bool.and_false, Bool.or_true, Bool.true_or, Bool.or_false, Bool.false_or, Bool.not_true, Bool.not_false, decide_true, decide_false, List.contains_cons, List.elem_cons, List.elem_nil, Nat.reduceSub, Nat.reduceAdd, Nat.reduceLT, Nat.reduceLeDiff, Nat.reduceEqDiff, Nat.zero_add, Nat.add_zero, Nat.sub_self, Nat.le_refl, gIsi, isT_list]
  have e0 : eqC (il []) (il []) = some true := by rw [eqC_il]; rfl
  have g1 : gNe (Val.ol []).d (Val.ol []).d = some (.sh (.bl false)) := by
    show (eqC (il []) (il [])).map _ = _
    rw [e0]
    rfl
  have g2 : gEq (Val.ol []).d (Val.ol []).d = some (.sh (.bl true)) := by
    show (eqC (il []) (il [])).map _ = _
    rw [e0]
    rfl
  have a1 := fBl_val (f2_pp (ac_list1 cs hc.2 hz) emp_v g1)
  have a2 := f2_pp (ac_list2 cs hc hz) emp_v g2
  unfold F_are_corners
  rw [semF_ret (x := .sh (.bl true)) (η := [some (.sh (il cs)), none, none]) ?_ (by simp)]
  · rfl
  · show fSeq _ _ [some (.sh (il cs)), none, none] = _
    rw [fSeq_next (η1 := [some (.sh (il cs)), none, none])]
    · unfold fRet
      rw [a2]
      rfl
    · rw [fIf_f]
      · rfl
      · unfold fOrT fNotT fTru
        rw [hl]
        show fBl _ _ = _
        exact a1
end L43
end
section
set_option Elab.async false
set_option linter.all false
set_option maxRecDepth 100000
set_option maxHeartbeats 1000000
namespace L43
open PySem PySem.Spec PyProof.Rows L2 Wp
/-! R11: a stair made, its corners lent -/
theorem F_initO (b : Int) (cs : List Int) (hc : Inc cs) (hz : cs.length < 900) :
    F_Stair_init [.oi 0 [] [], .sh (.int b), iv cs] = some (.ok (.sh .non) [some (.oi 0 fsS [.sh (.int b), .sh (.tup (cs.map .int))]), some (.sh (.int b)), some (iv cs)]) := by
  have h1 := F_chkw b
  have h2 := F_areC cs hc hz
  have g4 : gTuple (il cs) = some (.ot ((cs.map D.int).map .sh)) := rfl
  have hd : (Val.ot ((cs.map D.int).map .sh)).d = .tup (cs.map .int) := by
    simp [Val.d, Val.ds_map, List.map_map, Function.comp_def]
  unfold F_Stair_init
  simp only [iv, il] at *
  generalize cs.map D.int = I at *
  repeat first | with_reducible (first | exact h1 | exact h2 | exact g4) | (refine Lf.mk ?_ <;> first | (simp only [sharE, immD, tupD, Option.map_none, Fi.dv, List.drop_nil, List.drop_zero, List.drop_succ_cons, prepAll, prep1, Val.top, Val.d, ds_sh, Val.ds, esc1, escAll, escS, argAll, pass1, arg1, backAll, back1, shAll, shOf, shAll_map, isOl, shList, itemsT, itemsL, gNm, gTp, gsCons, gsNil, wipeE, outF, List.getElem?_cons_zero, List.getElem?_cons_succ, List.getElem?_nil, List.set_cons_zero, List.set_cons_succ, List.headD_cons, List.headD_nil, List.tail_cons, List.tail_nil, List.length_cons, List.length_nil, List.map_cons, List.map_nil, List.replicate_zero, List.replicate_succ, List.cons_append, List.nil_append, List.append_nil, Nat.reduceAdd, Nat.reduceSub, Nat.reduceLT, Nat.reduceLeDiff, Nat.zero_add, Nat.add_zero, Nat.sub_self, Nat.zero_lt_succ, Nat.add_lt_add_iff_right, if_true, if_false, ite_true, ite_false, reduceIte, Bool.false_eq_true, Option.map_some, Option.bind_some, decide_true, decide_false, hd] <;> first | exact rfl | decide) | exact rfl | decide) | (refine Gp.mk ?_ <;> first | with_reducible (first | exact h1 | exact h2 | exact g4) | (simp only [p1, p2, gAdd, Wp.gSub, gMul, gMod, gNeg, gCmp, cmpF, cLt, cLe, cGt, cGe, gEq, gNe, gIsN, gSub2, gIx, gLen, gMx2, gMn2, gInt, gBits, truthD, itemsX, itemsL, itemsT, shItems, shAll, shOf, shAll_map, Val.d, ds_sh, Val.ds, List.map_cons, List.map_nil, List.length_cons, List.length_nil, List.length_map, Option.map_some, Option.bind_some, Option.map_none, Option.bind_none, Bool.not_true, Bool.not_false, if_true, if_false, reduceIte, Bool.false_eq_true, numV, hd] <;> exact rfl) | exact rfl) | (refine Sz.mk ?_ <;> first | assumption | with_reducible (first | exact h1 | exact h2 | exact g4) | (simp [sizeLine_eq]; done) | (simp [sizeLine_eq] <;> omega) | (simp [sizeLine_eq, small62] <;> omega)) | with_reducible (first | apply e_var | apply e_lit | apply e_f1 | apply e_f2 | apply e_fn | apply e_app1 | apply e_app2 | apply e_nil | apply e_cons | apply e_bl | apply e_tru | apply e_notT | apply e_andT | apply e_orT | apply e_andV | apply e_orV | apply e_notV | apply e_ite | apply e_disp | apply e_pt0 | apply e_pt1 | apply e_slice | apply e_lc | apply lc_nil | apply lc_cons | apply e_yes | apply e_seqI | apply e_enum | apply e_rng1 | apply e_rng2 | apply e_callD | apply e_call | apply e_make | apply e_meth | apply e_prop | apply e_attr | apply e_neO | apply e_eqO | apply e_par3 | apply e_seq | apply sq_n | apply sq_r | apply sq_b | apply sq_c | apply e_set | apply e_par | apply e_asg | apply e_expr | apply e_app | apply e_ret | apply e_retN | apply e_nxt | apply e_flw | apply e_if | apply e_for | apply lp_nil | apply lp_cons | apply lp_n | apply lp_c | apply lp_b | apply lp_r | apply e_setI | apply e_setF | apply e_retM | apply e_pure | apply e_pureT | apply e_eqN | apply e_eqTu | apply e_appT | apply e_sem | apply ok_ok) | ((with_reducible refine c_t ?hb ?_); (case hb => decide)) | ((with_reducible refine c_f ?hb ?_); (case hb => decide)) | ((with_reducible refine c_t ?hb ?_); (case hb => first | with_reducible rfl | with_reducible assumption | (simp [hd] <;> omega) | omega)) | ((with_reducible refine c_f ?hb ?_); (case hb => first | with_reducible rfl | with_reducible assumption | (simp [hd] <;> omega) | omega)) | with_reducible (apply lc_put) | with_reducible (apply lc_skip)
theorem F_initS (b : Int) (cs : List Int) (hc : Inc cs) (hz : cs.length < 900) :
    F_Stair_init [.oi 0 [] [], .sh (.int b), .sh (il cs)] = some (.ok (.sh .non) [some (.oi 0 fsS [.sh (.int b), .sh (.tup (cs.map .int))]), some (.sh (.int b)), some (.sh (il cs))]) := by
  have h1 := F_chkw b
  have h2 := F_areC cs hc hz
  have g4 : gTuple (il cs) = some (.ot ((cs.map D.int).map .sh)) := rfl
  have hd : (Val.ot ((cs.map D.int).map .sh)).d = .tup (cs.map .int) := by
    simp [Val.d, Val.ds_map, List.map_map, Function.comp_def]
  unfold F_Stair_init
  simp only [iv, il] at *
  generalize cs.map D.int = I at *
  repeat first | with_reducible (first | exact h1 | exact h2 | exact g4) | (refine Lf.mk ?_ <;> first | (simp only [sharE, immD, tupD, Option.map_none, Fi.dv, List.drop_nil, List.drop_zero, List.drop_succ_cons, prepAll, prep1, Val.top, Val.d, ds_sh, Val.ds, esc1, escAll, escS, argAll, pass1, arg1, backAll, back1, shAll, shOf, shAll_map, isOl, shList, itemsT, itemsL, gNm, gTp, gsCons, gsNil, wipeE, outF, List.getElem?_cons_zero, List.getElem?_cons_succ, List.getElem?_nil, List.set_cons_zero, List.set_cons_succ, List.headD_cons, List.headD_nil, List.tail_cons, List.tail_nil, List.length_cons, List.length_nil, List.map_cons, List.map_nil, List.replicate_zero, List.replicate_succ, List.cons_append, List.nil_append, List.append_nil, Nat.reduceAdd, Nat.reduceSub, Nat.reduceLT, Nat.reduceLeDiff, Nat.zero_add, Nat.add_zero, Nat.sub_self, Nat.zero_lt_succ, Nat.add_lt_add_iff_right, if_true, if_false, ite_true, ite_false, reduceIte, Bool.false_eq_true, Option.map_some, Option.bind_some, decide_true, decide_false, hd] <;> first | exact rfl | decide) | exact rfl | decide) | (refine Gp.mk ?_ <;> first | with_reducible (first | exact h1 | exact h2 | exact g4) | (simp only [p1, p2, gAdd, Wp.gSub, gMul, gMod, gNeg, gCmp, cmpF, cLt, cLe, cGt, cGe, gEq, gNe, gIsN, gSub2, gIx, gLen, gMx2, gMn2, gInt, gBits, truthD, itemsX, itemsL, itemsT, shItems, shAll, shOf, shAll_map, Val.d, ds_sh, Val.ds, List.map_cons, List.map_nil, List.length_cons, List.length_nil, List.length_map, Option.map_some, Option.bind_some, Option.map_none, Option.bind_none, Bool.not_true, Bool.not_false, if_true, if_false, reduceIte, Bool.false_eq_true, numV, hd] <;> exact rfl) | exact rfl) | (refine Sz.mk ?_ <;> first | assumption | with_reducible (first | exact h1 | exact h2 | exact g4) | (simp [sizeLine_eq]; done) | (simp [sizeLine_eq] <;> omega) | (simp [sizeLine_eq, small62] <;> omega)) | with_reducible (first | apply e_var | apply e_lit | apply e_f1 | apply e_f2 | apply e_fn | apply e_app1 | apply e_app2 | apply e_nil | apply e_cons | apply e_bl | apply e_tru | apply e_notT | apply e_andT | apply e_orT | apply e_andV | apply e_orV | apply e_notV | apply e_ite | apply e_disp | apply e_pt0 | apply e_pt1 | apply e_slice | apply e_lc | apply lc_nil | apply lc_cons | apply e_yes | apply e_seqI | apply e_enum | apply e_rng1 | apply e_rng2 | apply e_callD | apply e_call | apply e_make | apply e_meth | apply e_prop | apply e_attr | apply e_neO | apply e_eqO | apply e_par3 | apply e_seq | apply sq_n | apply sq_r | apply sq_b | apply sq_c | apply e_set | apply e_par | apply e_asg | apply e_expr | apply e_app | apply e_ret | apply e_retN | apply e_nxt | apply e_flw | apply e_if | apply e_for | apply lp_nil | apply lp_cons | apply lp_n | apply lp_c | apply lp_b | apply lp_r | apply e_setI | apply e_setF | apply e_retM | apply e_pure | apply e_pureT | apply e_eqN | apply e_eqTu | apply e_appT | apply e_sem | apply ok_ok) | ((with_reducible refine c_t ?hb ?_); (case hb => decide)) | ((with_reducible refine c_f ?hb ?_); (case hb => decide)) | ((with_reducible refine c_t ?hb ?_); (case hb => first | with_reducible rfl | with_reducible assumption | (simp [hd] <;> omega) | omega)) | ((with_reducible refine c_f ?hb ?_); (case hb => first | with_reducible rfl | with_reducible assumption | (simp [hd] <;> omega) | omega)) | with_reducible (apply lc_put) | with_reducible (apply lc_skip)
/-! the stair by itself -/
theorem F_begin (b : Int) (cs : List Int) : F_Stair_begin [.sh (stD b cs)] = some (.ok (.sh (.int b)) [some (.sh (stD b cs))]) := by
  unfold F_Stair_begin
  repeat first | with_reducible (first | exact at_base (b := b) (cs := cs) rfl) | (refine Lf.mk ?_ <;> first | (simp only [sharE, immD, tupD, Option.map_none, Fi.dv, List.drop_nil, List.drop_zero, List.drop_succ_cons, prepAll, prep1, Val.top, Val.d, ds_sh, Val.ds, esc1, escAll, escS, argAll, pass1, arg1, backAll, back1, shAll, shOf, shAll_map, isOl, shList, itemsT, itemsL, gNm, gTp, gsCons, gsNil, wipeE, outF, List.getElem?_cons_zero, List.getElem?_cons_succ, List.getElem?_nil, List.set_cons_zero, List.set_cons_succ, List.headD_cons, List.headD_nil, List.tail_cons, List.tail_nil, List.length_cons, List.length_nil, List.map_cons, List.map_nil, List.replicate_zero, List.replicate_succ, List.cons_append, List.nil_append, List.append_nil, Nat.reduceAdd, Nat.reduceSub, Nat.reduceLT, Nat.reduceLeDiff, Nat.zero_add, Nat.add_zero, Nat.sub_self, Nat.zero_lt_succ, Nat.add_lt_add_iff_right, if_true, if_false, ite_true, ite_false, reduceIte, Bool.false_eq_true, Option.map_some, Option.bind_some, decide_true, decide_false] <;> first | exact rfl | decide) | exact rfl | decide) | (refine Gp.mk ?_ <;> first | with_reducible (first | exact at_base (b := b) (cs := cs) rfl) | (simp only [p1, p2, gAdd, Wp.gSub, gMul, gMod, gNeg, gCmp, cmpF, cLt, cLe, cGt, cGe, gEq, gNe, gIsN, gSub2, gIx, gLen, gMx2, gMn2, gInt, gBits, truthD, itemsX, itemsL, itemsT, shItems, shAll, shOf, shAll_map, Val.d, ds_sh, Val.ds, List.map_cons, List.map_nil, List.length_cons, List.length_nil, List.length_map, Option.map_some, Option.bind_some, Option.map_none, Option.bind_none, Bool.not_true, Bool.not_false, if_true, if_false, reduceIte, Bool.false_eq_true, numV] <;> exact rfl) | exact rfl) | (refine Sz.mk ?_ <;> first | assumption | with_reducible (first | exact at_base (b := b) (cs := cs) rfl) | (simp [sizeLine_eq]; done) | (simp [sizeLine_eq] <;> omega) | (simp [sizeLine_eq, small62] <;> omega)) | with_reducible (first | apply e_var | apply e_lit | apply e_f1 | apply e_f2 | apply e_fn | apply e_app1 | apply e_app2 | apply e_nil | apply e_cons | apply e_bl | apply e_tru | apply e_notT | apply e_andT | apply e_orT | apply e_andV | apply e_orV | apply e_notV | apply e_ite | apply e_disp | apply e_pt0 | apply e_pt1 | apply e_slice | apply e_lc | apply lc_nil | apply lc_cons | apply e_yes | apply e_seqI | apply e_enum | apply e_rng1 | apply e_rng2 | apply e_callD | apply e_call | apply e_make | apply e_meth | apply e_prop | apply e_attr | apply e_neO | apply e_eqO | apply e_par3 | apply e_seq | apply sq_n | apply sq_r | apply sq_b | apply sq_c | apply e_set | apply e_par | apply e_asg | apply e_expr | apply e_app | apply e_ret | apply e_retN | apply e_nxt | apply e_flw | apply e_if | apply e_for | apply lp_nil | apply lp_cons | apply lp_n | apply lp_c | apply lp_b | apply lp_r | apply e_setI | apply e_setF | apply e_retM | apply e_pure | apply e_pureT | apply e_eqN | apply e_eqTu | apply e_appT | apply e_sem | apply ok_ok) | ((with_reducible refine c_t ?hb ?_); (case hb => decide)) | ((with_reducible refine c_f ?hb ?_); (case hb => decide)) | ((with_reducible refine c_t ?hb ?_); (case hb => first | with_reducible rfl | with_reducible assumption | (simp <;> omega) | omega)) | ((with_reducible refine c_f ?hb ?_); (case hb => first | with_reducible rfl | with_reducible assumption | (simp <;> omega) | omega)) | with_reducible (apply lc_put) | with_reducible (apply lc_skip)
theorem F_corn (b : Int) (cs : List Int) : F_Stair_corners [.sh (stD b cs)] = some (.ok (iv cs) [some (.sh (stD b cs))]) := by
  unfold F_Stair_corners
  repeat first | with_reducible (first | exact at_turns (b := b) (cs := cs) rfl) | (refine Lf.mk ?_ <;> first | (simp only [sharE, immD, tupD, Option.map_none, Fi.dv, List.drop_nil, List.drop_zero, List.drop_succ_cons, prepAll, prep1, Val.top, Val.d, ds_sh, Val.ds, esc1, escAll, escS, argAll, pass1, arg1, backAll, back1, shAll, shOf, shAll_map, isOl, shList, itemsT, itemsL, gNm, gTp, gsCons, gsNil, wipeE, outF, List.getElem?_cons_zero, List.getElem?_cons_succ, List.getElem?_nil, List.set_cons_zero, List.set_cons_succ, List.headD_cons, List.headD_nil, List.tail_cons, List.tail_nil, List.length_cons, List.length_nil, List.map_cons, List.map_nil, List.replicate_zero, List.replicate_succ, List.cons_append, List.nil_append, List.append_nil, Nat.reduceAdd, Nat.reduceSub, Nat.reduceLT, Nat.reduceLeDiff, Nat.zero_add, Nat.add_zero, Nat.sub_self, Nat.zero_lt_succ, Nat.add_lt_add_iff_right, if_true, if_false, ite_true, ite_false, reduceIte, Bool.false_eq_true, Option.map_some, Option.bind_some, decide_true, decide_false, gList] <;> first | exact rfl | decide) | exact rfl | decide) | (refine Gp.mk ?_ <;> first | with_reducible (first | exact at_turns (b := b) (cs := cs) rfl) | (simp only [p1, p2, gAdd, Wp.gSub, gMul, gMod, gNeg, gCmp, cmpF, cLt, cLe, cGt, cGe, gEq, gNe, gIsN, gSub2, gIx, gLen, gMx2, gMn2, gInt, gBits, truthD, itemsX, itemsL, itemsT, shItems, shAll, shOf, shAll_map, Val.d, ds_sh, Val.ds, List.map_cons, List.map_nil, List.length_cons, List.length_nil, List.length_map, Option.map_some, Option.bind_some, Option.map_none, Option.bind_none, Bool.not_true, Bool.not_false, if_true, if_false, reduceIte, Bool.false_eq_true, numV, gList] <;> exact rfl) | exact rfl) | (refine Sz.mk ?_ <;> first | assumption | with_reducible (first | exact at_turns (b := b) (cs := cs) rfl) | (simp [sizeLine_eq]; done) | (simp [sizeLine_eq] <;> omega) | (simp [sizeLine_eq, small62] <;> omega)) | with_reducible (first | apply e_var | apply e_lit | apply e_f1 | apply e_f2 | apply e_fn | apply e_app1 | apply e_app2 | apply e_nil | apply e_cons | apply e_bl | apply e_tru | apply e_notT | apply e_andT | apply e_orT | apply e_andV | apply e_orV | apply e_notV | apply e_ite | apply e_disp | apply e_pt0 | apply e_pt1 | apply e_slice | apply e_lc | apply lc_nil | apply lc_cons | apply e_yes | apply e_seqI | apply e_enum | apply e_rng1 | apply e_rng2 | apply e_callD | apply e_call | apply e_make | apply e_meth | apply e_prop | apply e_attr | apply e_neO | apply e_eqO | apply e_par3 | apply e_seq | apply sq_n | apply sq_r | apply sq_b | apply sq_c | apply e_set | apply e_par | apply e_asg | apply e_expr | apply e_app | apply e_ret | apply e_retN | apply e_nxt | apply e_flw | apply e_if | apply e_for | apply lp_nil | apply lp_cons | apply lp_n | apply lp_c | apply lp_b | apply lp_r | apply e_setI | apply e_setF | apply e_retM | apply e_pure | apply e_pureT | apply e_eqN | apply e_eqTu | apply e_appT | apply e_sem | apply ok_ok) | ((with_reducible refine c_t ?hb ?_); (case hb => decide)) | ((with_reducible refine c_f ?hb ?_); (case hb => decide)) | ((with_reducible refine c_t ?hb ?_); (case hb => first | with_reducible rfl | with_reducible assumption | (simp [gList] <;> omega) | omega)) | ((with_reducible refine c_f ?hb ?_); (case hb => first | with_reducible rfl | with_reducible assumption | (simp [gList] <;> omega) | omega)) | with_reducible (apply lc_put) | with_reducible (apply lc_skip)
theorem F_cc1 (n : Int) (hn : 0 ≤ n) : F_check_count [.sh (.int n), .sh (.int 0), .sh .non] = some (.ok (.sh .non) [some (.sh (.int n)), some (.sh (.int 0)), some (.sh .non)]) := by
  have hc := F_count (n := n) hn
  unfold F_check_count
  repeat first | with_reducible (first | exact hc) | (refine Lf.mk ?_ <;> first | (simp only [sharE, immD, tupD, Option.map_none, Fi.dv, List.drop_nil, List.drop_zero, List.drop_succ_cons, prepAll, prep1, Val.top, Val.d, ds_sh, Val.ds, esc1, escAll, escS, argAll, pass1, arg1, backAll, back1, shAll, shOf, shAll_map, isOl, shList, itemsT, itemsL, gNm, gTp, gsCons, gsNil, wipeE, outF, List.getElem?_cons_zero, List.getElem?_cons_succ, List.getElem?_nil, List.set_cons_zero, List.set_cons_succ, List.headD_cons, List.headD_nil, List.tail_cons, List.tail_nil, List.length_cons, List.length_nil, List.map_cons, List.map_nil, List.replicate_zero, List.replicate_succ, List.cons_append, List.nil_append, List.append_nil, Nat.reduceAdd, Nat.reduceSub, Nat.reduceLT, Nat.reduceLeDiff, Nat.zero_add, Nat.add_zero, Nat.sub_self, Nat.zero_lt_succ, Nat.add_lt_add_iff_right, if_true, if_false, ite_true, ite_false, reduceIte, Bool.false_eq_true, Option.map_some, Option.bind_some, decide_true, decide_false] <;> first | exact rfl | decide) | exact rfl | decide) | (refine Gp.mk ?_ <;> first | with_reducible (first | exact hc) | (simp only [p1, p2, gAdd, Wp.gSub, gMul, gMod, gNeg, gCmp, cmpF, cLt, cLe, cGt, cGe, gEq, gNe, gIsN, gSub2, gIx, gLen, gMx2, gMn2, gInt, gBits, truthD, itemsX, itemsL, itemsT, shItems, shAll, shOf, shAll_map, Val.d, ds_sh, Val.ds, List.map_cons, List.map_nil, List.length_cons, List.length_nil, List.length_map, Option.map_some, Option.bind_some, Option.map_none, Option.bind_none, Bool.not_true, Bool.not_false, if_true, if_false, reduceIte, Bool.false_eq_true, numV] <;> exact rfl) | exact rfl) | (refine Sz.mk ?_ <;> first | assumption | with_reducible (first | exact hc) | (simp [sizeLine_eq]; done) | (simp [sizeLine_eq] <;> omega) | (simp [sizeLine_eq, small62] <;> omega)) | with_reducible (first | apply e_var | apply e_lit | apply e_f1 | apply e_f2 | apply e_fn | apply e_app1 | apply e_app2 | apply e_nil | apply e_cons | apply e_bl | apply e_tru | apply e_notT | apply e_andT | apply e_orT | apply e_andV | apply e_orV | apply e_notV | apply e_ite | apply e_disp | apply e_pt0 | apply e_pt1 | apply e_slice | apply e_lc | apply lc_nil | apply lc_cons | apply e_yes | apply e_seqI | apply e_enum | apply e_rng1 | apply e_rng2 | apply e_callD | apply e_call | apply e_make | apply e_meth | apply e_prop | apply e_attr | apply e_neO | apply e_eqO | apply e_par3 | apply e_seq | apply sq_n | apply sq_r | apply sq_b | apply sq_c | apply e_set | apply e_par | apply e_asg | apply e_expr | apply e_app | apply e_ret | apply e_retN | apply e_nxt | apply e_flw | apply e_if | apply e_for | apply lp_nil | apply lp_cons | apply lp_n | apply lp_c | apply lp_b | apply lp_r | apply e_setI | apply e_setF | apply e_retM | apply e_pure | apply e_pureT | apply e_eqN | apply e_eqTu | apply e_appT | apply e_sem | apply ok_ok) | ((with_reducible refine c_t ?hb ?_); (case hb => decide)) | ((with_reducible refine c_f ?hb ?_); (case hb => decide)) | ((with_reducible refine c_t ?hb ?_); (case hb => first | with_reducible rfl | with_reducible assumption | (simp <;> omega) | omega)) | ((with_reducible refine c_f ?hb ?_); (case hb => first | with_reducible rfl | with_reducible assumption | (simp <;> omega) | omega)) | with_reducible (apply lc_put) | with_reducible (apply lc_skip)
theorem F_value (b : Int) (cs : List Int) (n : Int) (hn : 0 ≤ n) (hl : cs.length < 900) : F_Stair_value [.sh (stD b cs), .sh (.int n)] = some (.ok (.sh (.int (ht b cs n))) [some (.sh (stD b cs)), some (.sh (.int n))]) := by
  have hc := F_cc1 n hn
  have hh := F_height b cs n hl
  unfold F_Stair_value
  repeat first | with_reducible (first | exact hc | exact hh) | (refine Lf.mk ?_ <;> first | (simp only [sharE, immD, tupD, Option.map_none, Fi.dv, List.drop_nil, List.drop_zero, List.drop_succ_cons, prepAll, prep1, Val.top, Val.d, ds_sh, Val.ds, esc1, escAll, escS, argAll, pass1, arg1, backAll, back1, shAll, shOf, shAll_map, isOl, shList, itemsT, itemsL, gNm, gTp, gsCons, gsNil, wipeE, outF, List.getElem?_cons_zero, List.getElem?_cons_succ, List.getElem?_nil, List.set_cons_zero, List.set_cons_succ, List.headD_cons, List.headD_nil, List.tail_cons, List.tail_nil, List.length_cons, List.length_nil, List.map_cons, List.map_nil, List.replicate_zero, List.replicate_succ, List.cons_append, List.nil_append, List.append_nil, Nat.reduceAdd, Nat.reduceSub, Nat.reduceLT, Nat.reduceLeDiff, Nat.zero_add, Nat.add_zero, Nat.sub_self, Nat.zero_lt_succ, Nat.add_lt_add_iff_right, if_true, if_false, ite_true, ite_false, reduceIte, Bool.false_eq_true, Option.map_some, Option.bind_some, decide_true, decide_false] <;> first | exact rfl | decide) | exact rfl | decide) | (refine Gp.mk ?_ <;> first | with_reducible (first | exact hc | exact hh) | (simp only [p1, p2, gAdd, Wp.gSub, gMul, gMod, gNeg, gCmp, cmpF, cLt, cLe, cGt, cGe, gEq, gNe, gIsN, gSub2, gIx, gLen, gMx2, gMn2, gInt, gBits, truthD, itemsX, itemsL, itemsT, shItems, shAll, shOf, shAll_map, Val.d, ds_sh, Val.ds, List.map_cons, List.map_nil, List.length_cons, List.length_nil, List.length_map, Option.map_some, Option.bind_some, Option.map_none, Option.bind_none, Bool.not_true, Bool.not_false, if_true, if_false, reduceIte, Bool.false_eq_true, numV] <;> exact rfl) | exact rfl) | (refine Sz.mk ?_ <;> first | assumption | with_reducible (first | exact hc | exact hh) | (simp [sizeLine_eq]; done) | (simp [sizeLine_eq] <;> omega) | (simp [sizeLine_eq, small62] <;> omega)) | with_reducible (first | apply e_var | apply e_lit | apply e_f1 | apply e_f2 | apply e_fn | apply e_app1 | apply e_app2 | apply e_nil | apply e_cons | apply e_bl | apply e_tru | apply e_notT | apply e_andT | apply e_orT | apply e_andV | apply e_orV | apply e_notV | apply e_ite | apply e_disp | apply e_pt0 | apply e_pt1 | apply e_slice | apply e_lc | apply lc_nil | apply lc_cons | apply e_yes | apply e_seqI | apply e_enum | apply e_rng1 | apply e_rng2 | apply e_callD | apply e_call | apply e_make | apply e_meth | apply e_prop | apply e_attr | apply e_neO | apply e_eqO | apply e_par3 | apply e_seq | apply sq_n | apply sq_r | apply sq_b | apply sq_c | apply e_set | apply e_par | apply e_asg | apply e_expr | apply e_app | apply e_ret | apply e_retN | apply e_nxt | apply e_flw | apply e_if | apply e_for | apply lp_nil | apply lp_cons | apply lp_n | apply lp_c | apply lp_b | apply lp_r | apply e_setI | apply e_setF | apply e_retM | apply e_pure | apply e_pureT | apply e_eqN | apply e_eqTu | apply e_appT | apply e_sem | apply ok_ok) | ((with_reducible refine c_t ?hb ?_); (case hb => decide)) | ((with_reducible refine c_f ?hb ?_); (case hb => decide)) | ((with_reducible refine c_t ?hb ?_); (case hb => first | with_reducible rfl | with_reducible assumption | (simp <;> omega) | omega)) | ((with_reducible refine c_f ?hb ?_); (case hb => first | with_reducible rfl | with_reducible assumption | (simp <;> omega) | omega)) | with_reducible (apply lc_put) | with_reducible (apply lc_skip)
theorem F_moved (b k : Int) (cs : List Int) (hc : Inc cs) (hz : cs.length < 900) : F_moved_stair [.sh (stD b cs), .sh (.int k)] = some (.ok (.sh (stD (b + k) cs)) [some (.sh (stD b cs)), some (.sh (.int k))]) := by
  have h := F_initO (b + k) cs hc hz
  simp only [iv] at h
  have hd : D.obj 0 fsS [.int (b + k), .tup (cs.map .int)] = stD (b + k) cs := rfl
  have g : gList (.tup (cs.map D.int)) = some (.ol ((cs.map D.int).map .sh)) := rfl
  have t1 : ∀ x1 : Option Val, fAttr fc_turns pt_turns "turns" (fVar 0) [some (.sh (stD b cs)), x1] = _ := fun x1 => at_turns (b := b) (cs := cs) rfl
  have t2 : ∀ x1 : Option Val, fAttr fc_base pt_base "base" (fVar 0) [some (.sh (stD b cs)), x1] = _ := fun x1 => at_base (b := b) (cs := cs) rfl
  unfold F_moved_stair
  generalize cs.map D.int = I at *
  repeat first | with_reducible (first | exact t1 _ | exact t2 _ | exact g | exact h) | (refine Lf.mk ?_ <;> first | (simp only [sharE, immD, tupD, Option.map_none, Fi.dv, List.drop_nil, List.drop_zero, List.drop_succ_cons, prepAll, prep1, Val.top, Val.d, ds_sh, Val.ds, esc1, escAll, escS, argAll, pass1, arg1, backAll, back1, shAll, shOf, shAll_map, isOl, shList, itemsT, itemsL, gNm, gTp, gsCons, gsNil, wipeE, outF, List.getElem?_cons_zero, List.getElem?_cons_succ, List.getElem?_nil, List.set_cons_zero, List.set_cons_succ, List.headD_cons, List.headD_nil, List.tail_cons, List.tail_nil, List.length_cons, List.length_nil, List.map_cons, List.map_nil, List.replicate_zero, List.replicate_succ, List.cons_append, List.nil_append, List.append_nil, Nat.reduceAdd, Nat.reduceSub, Nat.reduceLT, Nat.reduceLeDiff, Nat.zero_add, Nat.add_zero, Nat.sub_self, Nat.zero_lt_succ, Nat.add_lt_add_iff_right, if_true, if_false, ite_true, ite_false, reduceIte, Bool.false_eq_true, Option.map_some, Option.bind_some, decide_true, decide_false, hd] <;> first | exact rfl | decide) | exact rfl | decide) | (refine Gp.mk ?_ <;> first | with_reducible (first | exact t1 _ | exact t2 _ | exact g | exact h) | (simp only [p1, p2, gAdd, Wp.gSub, gMul, gMod, gNeg, gCmp, cmpF, cLt, cLe, cGt, cGe, gEq, gNe, gIsN, gSub2, gIx, gLen, gMx2, gMn2, gInt, gBits, truthD, itemsX, itemsL, itemsT, shItems, shAll, shOf, shAll_map, Val.d, ds_sh, Val.ds, List.map_cons, List.map_nil, List.length_cons, List.length_nil, List.length_map, Option.map_some, Option.bind_some, Option.map_none, Option.bind_none, Bool.not_true, Bool.not_false, if_true, if_false, reduceIte, Bool.false_eq_true, numV, hd] <;> exact rfl) | exact rfl) | (refine Sz.mk ?_ <;> first | assumption | with_reducible (first | exact t1 _ | exact t2 _ | exact g | exact h) | (simp [sizeLine_eq]; done) | (simp [sizeLine_eq] <;> omega) | (simp [sizeLine_eq, small62] <;> omega)) | with_reducible (first | apply e_var | apply e_lit | apply e_f1 | apply e_f2 | apply e_fn | apply e_app1 | apply e_app2 | apply e_nil | apply e_cons | apply e_bl | apply e_tru | apply e_notT | apply e_andT | apply e_orT | apply e_andV | apply e_orV | apply e_notV | apply e_ite | apply e_disp | apply e_pt0 | apply e_pt1 | apply e_slice | apply e_lc | apply lc_nil | apply lc_cons | apply e_yes | apply e_seqI | apply e_enum | apply e_rng1 | apply e_rng2 | apply e_callD | apply e_call | apply e_make | apply e_meth | apply e_prop | apply e_attr | apply e_neO | apply e_eqO | apply e_par3 | apply e_seq | apply sq_n | apply sq_r | apply sq_b | apply sq_c | apply e_set | apply e_par | apply e_asg | apply e_expr | apply e_app | apply e_ret | apply e_retN | apply e_nxt | apply e_flw | apply e_if | apply e_for | apply lp_nil | apply lp_cons | apply lp_n | apply lp_c | apply lp_b | apply lp_r | apply e_setI | apply e_setF | apply e_retM | apply e_pure | apply e_pureT | apply e_eqN | apply e_eqTu | apply e_appT | apply e_sem | apply ok_ok) | ((with_reducible refine c_t ?hb ?_); (case hb => decide)) | ((with_reducible refine c_f ?hb ?_); (case hb => decide)) | ((with_reducible refine c_t ?hb ?_); (case hb => first | with_reducible rfl | with_reducible assumption | (simp [hd] <;> omega) | omega)) | ((with_reducible refine c_f ?hb ?_); (case hb => first | with_reducible rfl | with_reducible assumption | (simp [hd] <;> omega) | omega)) | with_reducible (apply lc_put) | with_reducible (apply lc_skip)
theorem F_shift (b k : Int) (cs : List Int) (hc : Inc cs) (hz : cs.length < 900) : F_Stair_shifted [.sh (stD b cs), .sh (.int k)] = some (.ok (.sh (stD (b + k) cs)) [some (.sh (stD b cs)), some (.sh (.int k))]) := by
  have h1 := F_chkw k
  have h2 := F_moved b k cs hc hz
  unfold F_Stair_shifted
  repeat first | with_reducible (first | exact h1 | exact h2) | (refine Lf.mk ?_ <;> first | (simp only [sharE, immD, tupD, Option.map_none, Fi.dv, List.drop_nil, List.drop_zero, List.drop_succ_cons, prepAll, prep1, Val.top, Val.d, ds_sh, Val.ds, esc1, escAll, escS, argAll, pass1, arg1, backAll, back1, shAll, shOf, shAll_map, isOl, shList, itemsT, itemsL, gNm, gTp, gsCons, gsNil, wipeE, outF, List.getElem?_cons_zero, List.getElem?_cons_succ, List.getElem?_nil, List.set_cons_zero, List.set_cons_succ, List.headD_cons, List.headD_nil, List.tail_cons, List.tail_nil, List.length_cons, List.length_nil, List.map_cons, List.map_nil, List.replicate_zero, List.replicate_succ, List.cons_append, List.nil_append, List.append_nil, Nat.reduceAdd, Nat.reduceSub, Nat.reduceLT, Nat.reduceLeDiff, Nat.zero_add, Nat.add_zero, Nat.sub_self, Nat.zero_lt_succ, Nat.add_lt_add_iff_right, if_true, if_false, ite_true, ite_false, reduceIte, Bool.false_eq_true, Option.map_some, Option.bind_some, decide_true, decide_false] <;> first | exact rfl | decide) | exact rfl | decide) | (refine Gp.mk ?_ <;> first | with_reducible (first | exact h1 | exact h2) | (simp only [p1, p2, gAdd, Wp.gSub, gMul, gMod, gNeg, gCmp, cmpF, cLt, cLe, cGt, cGe, gEq, gNe, gIsN, gSub2, gIx, gLen, gMx2, gMn2, gInt, gBits, truthD, itemsX, itemsL, itemsT, shItems, shAll, shOf, shAll_map, Val.d, ds_sh, Val.ds, List.map_cons, List.map_nil, List.length_cons, List.length_nil, List.length_map, Option.map_some, Option.bind_some, Option.map_none, Option.bind_none, Bool.not_true, Bool.not_false, if_true, if_false, reduceIte, Bool.false_eq_true, numV] <;> exact rfl) | exact rfl) | (refine Sz.mk ?_ <;> first | assumption | with_reducible (first | exact h1 | exact h2) | (simp [sizeLine_eq]; done) | (simp [sizeLine_eq] <;> omega) | (simp [sizeLine_eq, small62] <;> omega)) | with_reducible (first | apply e_var | apply e_lit | apply e_f1 | apply e_f2 | apply e_fn | apply e_app1 | apply e_app2 | apply e_nil | apply e_cons | apply e_bl | apply e_tru | apply e_notT | apply e_andT | apply e_orT | apply e_andV | apply e_orV | apply e_notV | apply e_ite | apply e_disp | apply e_pt0 | apply e_pt1 | apply e_slice | apply e_lc | apply lc_nil | apply lc_cons | apply e_yes | apply e_seqI | apply e_enum | apply e_rng1 | apply e_rng2 | apply e_callD | apply e_call | apply e_make | apply e_meth | apply e_prop | apply e_attr | apply e_neO | apply e_eqO | apply e_par3 | apply e_seq | apply sq_n | apply sq_r | apply sq_b | apply sq_c | apply e_set | apply e_par | apply e_asg | apply e_expr | apply e_app | apply e_ret | apply e_retN | apply e_nxt | apply e_flw | apply e_if | apply e_for | apply lp_nil | apply lp_cons | apply lp_n | apply lp_c | apply lp_b | apply lp_r | apply e_setI | apply e_setF | apply e_retM | apply e_pure | apply e_pureT | apply e_eqN | apply e_eqTu | apply e_appT | apply e_sem | apply ok_ok) | ((with_reducible refine c_t ?hb ?_); (case hb => decide)) | ((with_reducible refine c_f ?hb ?_); (case hb => decide)) | ((with_reducible refine c_t ?hb ?_); (case hb => first | with_reducible rfl | with_reducible assumption | (simp <;> omega) | omega)) | ((with_reducible refine c_f ?hb ?_); (case hb => first | with_reducible rfl | with_reducible assumption | (simp <;> omega) | omega)) | with_reducible (apply lc_put) | with_reducible (apply lc_skip)
theorem eq_tup (b : Int) (cs : List Int) (ds : List D) : F_Stair_eq [.sh (stD b cs), .sh (.tup ds)] = some (.ok (.sh (.bl false)) [some (.sh (stD b cs)), some (.sh (.tup ds))]) := by
  have g : gIsi bt_Stair ct_Stair (.tup ds) = some (.sh (.bl false)) := rfl
  unfold F_Stair_eq
  repeat first | with_reducible (first | exact g) | (refine Lf.mk ?_ <;> first | (simp only [sharE, immD, tupD, Option.map_none, Fi.dv, List.drop_nil, List.drop_zero, List.drop_succ_cons, prepAll, prep1, Val.top, Val.d, ds_sh, Val.ds, esc1, escAll, escS, argAll, pass1, arg1, backAll, back1, shAll, shOf, shAll_map, isOl, shList, itemsT, itemsL, gNm, gTp, gsCons, gsNil, wipeE, outF, List.getElem?_cons_zero, List.getElem?_cons_succ, List.getElem?_nil, List.set_cons_zero, List.set_cons_succ, List.headD_cons, List.headD_nil, List.tail_cons, List.tail_nil, List.length_cons, List.length_nil, List.map_cons, List.map_nil, List.replicate_zero, List.replicate_succ, List.cons_append, List.nil_append, List.append_nil, Nat.reduceAdd, Nat.reduceSub, Nat.reduceLT, Nat.reduceLeDiff, Nat.zero_add, Nat.add_zero, Nat.sub_self, Nat.zero_lt_succ, Nat.add_lt_add_iff_right, if_true, if_false, ite_true, ite_false, reduceIte, Bool.false_eq_true, Option.map_some, Option.bind_some, decide_true, decide_false] <;> first | exact rfl | decide) | exact rfl | decide) | (refine Gp.mk ?_ <;> first | with_reducible (first | exact g) | (simp only [p1, p2, gAdd, Wp.gSub, gMul, gMod, gNeg, gCmp, cmpF, cLt, cLe, cGt, cGe, gEq, gNe, gIsN, gSub2, gIx, gLen, gMx2, gMn2, gInt, gBits, truthD, itemsX, itemsL, itemsT, shItems, shAll, shOf, shAll_map, Val.d, ds_sh, Val.ds, List.map_cons, List.map_nil, List.length_cons, List.length_nil, List.length_map, Option.map_some, Option.bind_some, Option.map_none, Option.bind_none, Bool.not_true, Bool.not_false, if_true, if_false, reduceIte, Bool.false_eq_true, numV] <;> exact rfl) | exact rfl) | (refine Sz.mk ?_ <;> first | assumption | with_reducible (first | exact g) | (simp [sizeLine_eq]; done) | (simp [sizeLine_eq] <;> omega) | (simp [sizeLine_eq, small62] <;> omega)) | with_reducible (first | apply e_var | apply e_lit | apply e_f1 | apply e_f2 | apply e_fn | apply e_app1 | apply e_app2 | apply e_nil | apply e_cons | apply e_bl | apply e_tru | apply e_notT | apply e_andT | apply e_orT | apply e_andV | apply e_orV | apply e_notV | apply e_ite | apply e_disp | apply e_pt0 | apply e_pt1 | apply e_slice | apply e_lc | apply lc_nil | apply lc_cons | apply e_yes | apply e_seqI | apply e_enum | apply e_rng1 | apply e_rng2 | apply e_callD | apply e_call | apply e_make | apply e_meth | apply e_prop | apply e_attr | apply e_neO | apply e_eqO | apply e_par3 | apply e_seq | apply sq_n | apply sq_r | apply sq_b | apply sq_c | apply e_set | apply e_par | apply e_asg | apply e_expr | apply e_app | apply e_ret | apply e_retN | apply e_nxt | apply e_flw | apply e_if | apply e_for | apply lp_nil | apply lp_cons | apply lp_n | apply lp_c | apply lp_b | apply lp_r | apply e_setI | apply e_setF | apply e_retM | apply e_pure | apply e_pureT | apply e_eqN | apply e_eqTu | apply e_appT | apply e_sem | apply ok_ok) | ((with_reducible refine c_t ?hb ?_); (case hb => decide)) | ((with_reducible refine c_f ?hb ?_); (case hb => decide)) | ((with_reducible refine c_t ?hb ?_); (case hb => first | with_reducible rfl | with_reducible assumption | (simp <;> omega) | omega)) | ((with_reducible refine c_f ?hb ?_); (case hb => first | with_reducible rfl | with_reducible assumption | (simp <;> omega) | omega)) | with_reducible (apply lc_put) | with_reducible (apply lc_skip)
theorem eq_non (b : Int) (cs : List Int) : F_Stair_eq [.sh (stD b cs), .sh .non] = some (.ok (.sh (.bl false)) [some (.sh (stD b cs)), some (.sh .non)]) := by
  have g : gIsi bt_Stair ct_Stair .non = some (.sh (.bl false)) := rfl
  unfold F_Stair_eq
  repeat first | with_reducible (first | exact g) | (refine Lf.mk ?_ <;> first | (simp only [sharE, immD, tupD, Option.map_none, Fi.dv, List.drop_nil, List.drop_zero, List.drop_succ_cons, prepAll, prep1, Val.top, Val.d, ds_sh, Val.ds, esc1, escAll, escS, argAll, pass1, arg1, backAll, back1, shAll, shOf, shAll_map, isOl, shList, itemsT, itemsL, gNm, gTp, gsCons, gsNil, wipeE, outF, List.getElem?_cons_zero, List.getElem?_cons_succ, List.getElem?_nil, List.set_cons_zero, List.set_cons_succ, List.headD_cons, List.headD_nil, List.tail_cons, List.tail_nil, List.length_cons, List.length_nil, List.map_cons, List.map_nil, List.replicate_zero, List.replicate_succ, List.cons_append, List.nil_append, List.append_nil, Nat.reduceAdd, Nat.reduceSub, Nat.reduceLT, Nat.reduceLeDiff, Nat.zero_add, Nat.add_zero, Nat.sub_self, Nat.zero_lt_succ, Nat.add_lt_add_iff_right, if_true, if_false, ite_true, ite_false, reduceIte, Bool.false_eq_true, Option.map_some, Option.bind_some, decide_true, decide_false] <;> first | exact rfl | decide) | exact rfl | decide) | (refine Gp.mk ?_ <;> first | with_reducible (first | exact g) | (simp only [p1, p2, gAdd, Wp.gSub, gMul, gMod, gNeg, gCmp, cmpF, cLt, cLe, cGt, cGe, gEq, gNe, gIsN, gSub2, gIx, gLen, gMx2, gMn2, gInt, gBits, truthD, itemsX, itemsL, itemsT, shItems, shAll, shOf, shAll_map, Val.d, ds_sh, Val.ds, List.map_cons, List.map_nil, List.length_cons, List.length_nil, List.length_map, Option.map_some, Option.bind_some, Option.map_none, Option.bind_none, Bool.not_true, Bool.not_false, if_true, if_false, reduceIte, Bool.false_eq_true, numV] <;> exact rfl) | exact rfl) | (refine Sz.mk ?_ <;> first | assumption | with_reducible (first | exact g) | (simp [sizeLine_eq]; done) | (simp [sizeLine_eq] <;> omega) | (simp [sizeLine_eq, small62] <;> omega)) | with_reducible (first | apply e_var | apply e_lit | apply e_f1 | apply e_f2 | apply e_fn | apply e_app1 | apply e_app2 | apply e_nil | apply e_cons | apply e_bl | apply e_tru | apply e_notT | apply e_andT | apply e_orT | apply e_andV | apply e_orV | apply e_notV | apply e_ite | apply e_disp | apply e_pt0 | apply e_pt1 | apply e_slice | apply e_lc | apply lc_nil | apply lc_cons | apply e_yes | apply e_seqI | apply e_enum | apply e_rng1 | apply e_rng2 | apply e_callD | apply e_call | apply e_make | apply e_meth | apply e_prop | apply e_attr | apply e_neO | apply e_eqO | apply e_par3 | apply e_seq | apply sq_n | apply sq_r | apply sq_b | apply sq_c | apply e_set | apply e_par | apply e_asg | apply e_expr | apply e_app | apply e_ret | apply e_retN | apply e_nxt | apply e_flw | apply e_if | apply e_for | apply lp_nil | apply lp_cons | apply lp_n | apply lp_c | apply lp_b | apply lp_r | apply e_setI | apply e_setF | apply e_retM | apply e_pure | apply e_pureT | apply e_eqN | apply e_eqTu | apply e_appT | apply e_sem | apply ok_ok) | ((with_reducible refine c_t ?hb ?_); (case hb => decide)) | ((with_reducible refine c_f ?hb ?_); (case hb => decide)) | ((with_reducible refine c_t ?hb ?_); (case hb => first | with_reducible rfl | with_reducible assumption | (simp <;> omega) | omega)) | ((with_reducible refine c_f ?hb ?_); (case hb => first | with_reducible rfl | with_reducible assumption | (simp <;> omega) | omega)) | with_reducible (apply lc_put) | with_reducible (apply lc_skip)
end L43
end
section
set_option Elab.async false
set_option linter.all false
set_option maxRecDepth 100000
set_option maxHeartbeats 1000000
namespace L43
open PySem PySem.Spec PyProof.Rows L2 Wp
/-! R12: going up, undone, end, plainly -/
theorem ht_mono {cs : List Int} (hi : cs.Pairwise (· < ·)) (b : Int) {n m : Int} (h : n ≤ m) : ht b cs n ≤ ht b cs m := by
  obtain ⟨k, hk⟩ := Int.eq_ofNat_of_zero_le (show 0 ≤ m - n by omega)
  obtain rfl : m = n + k := by omega
  clear h hk
  induction k with
  | zero => simp
  | succ k ih =>
    have a := ht_step cs b (n + k) hi
    have s := sl_bd cs (n + k)
    rw [show n + ((k + 1 : Nat) : Int) = n + k + 1 by omega, a]
    omega
def la : Int → List Int → Int → Option Int
  | _, [], _ => none
  | lv, [c], n => some (c + n - lv)
  | lv, c :: d :: r, n => if n < lv + d - c then some (c + n - lv) else la (lv + d - c) r n
def lastA (b : Int) (cs : List Int) (n : Int) : Option Int := if n < b then some (-1) else la b cs n
theorem la_spec : ∀ (cs : List Int) (lv n x : Int), cs.Pairwise (· < ·) → lv ≤ n → la lv cs n = some x → ht lv cs x = n ∧ ht lv cs (x + 1) = n + 1
  | [], lv, n, x, _, _, h => by simp [la] at h
  | [c], lv, n, x, _, hn, h => by
    simp only [la, Option.some.injEq] at h
    simp only [ht]
    omega
  | c :: d :: r, lv, n, x, hp, hn, h => by
    obtain ⟨h1, h2⟩ := List.pairwise_cons.mp hp
    obtain ⟨h3, h4⟩ := List.pairwise_cons.mp h2
    have hcd := h1 d (by simp)
    simp only [la] at h
    by_cases hc : n < lv + d - c
    · rw [if_pos hc] at h
      have h := Option.some.inj h
      simp only [ht]
      rw [ht_low r _ x h4 (fun y hy => by have := h3 y hy; omega), ht_low r _ (x + 1) h4 (fun y hy => by have := h3 y hy; omega)]
      omega
    · rw [if_neg hc] at h
      obtain ⟨k1, k2⟩ := la_spec r (lv + d - c) n x h4 (by omega) h
      have hx : d ≤ x := Classical.byContradiction fun z => by
        have e : ht (lv + d - c) r (x + 1) = lv + d - c := ht_low r _ (x + 1) h4 (fun y hy => by have := h3 y hy; omega)
        omega
      simp only [ht]
      rw [show min x d = d by omega, show min (x + 1) d = d by omega, show lv + max (d - c) 0 = lv + d - c by omega]
      exact ⟨k1, k2⟩
theorem la_none : ∀ (cs : List Int) (lv n : Int), cs.Pairwise (· < ·) → lv ≤ n → la lv cs n = none → ∀ x, ht lv cs x ≤ n
  | [], lv, n, _, hn, _, x => by simpa [ht] using hn
  | [c], lv, n, _, _, h, x => by simp [la] at h
  | c :: d :: r, lv, n, hp, hn, h, x => by
    obtain ⟨h1, h2⟩ := List.pairwise_cons.mp hp
    obtain ⟨h3, h4⟩ := List.pairwise_cons.mp h2
    have hcd := h1 d (by simp)
    simp only [la] at h
    by_cases hc : n < lv + d - c
    · rw [if_pos hc] at h
      cases h
    · rw [if_neg hc] at h
      have ih := la_none r (lv + d - c) n h4 (by omega) h x
      simp only [ht]
      have : lv + max (min x d - c) 0 ≤ lv + d - c := by omega
      have mono : ∀ (cs : List Int) (b b' : Int), b ≤ b' → ht b cs x ≤ ht b' cs x := fun cs b b' hb => by
        have := ht_add (b' - b) cs b x
        rw [show b + (b' - b) = b' by omega] at this
        omega
      exact Int.le_trans (mono r _ _ this) ih
/-- behind the last corner -/
def rise (cs : List Int) : Int := (cs.length : Int).fmod 2
theorem rise_bd (cs : List Int) : rise cs = 0 ∨ rise cs = 1 := by
  unfold rise
  rw [Int.fmod_eq_emod_of_nonneg _ (by decide)]
  omega
theorem sl_all {cs : List Int} {n : Int} (h : ∀ x ∈ cs, x ≤ n) : sl cs n = rise cs := by
  unfold sl rise
  rw [List.filter_eq_self.mpr fun x hx => decide_eq_true (h x hx)]
theorem ht_end {cs : List Int} (hi : cs.Pairwise (· < ·)) (b : Int) {m : Int} (h : ∀ x ∈ cs, x ≤ m) (n : Int) (hn : m ≤ n) : ht b cs n = ht b cs m + rise cs * (n - m) := by
  obtain ⟨k, hk⟩ := Int.eq_ofNat_of_zero_le (show 0 ≤ n - m by omega)
  obtain rfl : n = m + k := by omega
  clear hn hk
  rw [show m + (k : Int) - m = k by omega]
  induction k with
  | zero => simp
  | succ k ih =>
    rw [show m + ((k + 1 : Nat) : Int) = m + k + 1 by omega, ht_step cs b (m + k) hi, ih, sl_all (fun x hx => by have := h x hx; omega), show ((k + 1 : Nat) : Int) = (k : Int) + 1 by omega, Int.mul_add]
    omega
/-- the last of the first counts with at most so much -/
def lastN (f : Nat → Int) (n : Int) : Nat → Option Nat
  | 0 => none
  | k + 1 => if f k ≤ n then some k else lastN f n k
/-- what the law tells -/
def undoneL (b : Int) (cs : List Int) (n : Int) : Option Int := match lastN (fun i => ht b cs i) n 41 with
  | none => some (-1)
  | some k => if k < 40 then some k else if rise cs = 1 then some (k + n - ht b cs 40) else none
theorem lastN_some {f : Nat → Int} {n : Int} : ∀ {k i : Nat}, lastN f n k = some i → i < k ∧ f i ≤ n ∧ ∀ j, i < j → j < k → n < f j
  | 0, i, h => by cases h
  | k + 1, i, h => by
    simp only [lastN] at h
    by_cases hf : f k ≤ n
    · rw [if_pos hf] at h
      obtain rfl := Option.some.inj h
      exact ⟨Nat.lt_succ_self _, hf, fun j h1 h2 => by omega⟩
    · rw [if_neg hf] at h
      obtain ⟨h1, h2, h3⟩ := lastN_some h
      refine ⟨by omega, h2, fun j j1 j2 => ?_⟩
      by_cases hj : j = k
      · subst hj
        omega
      · exact h3 j j1 (by omega)
theorem lastN_none {f : Nat → Int} {n : Int} : ∀ {k : Nat}, lastN f n k = none → ∀ j, j < k → n < f j
  | 0, h, j, hj => by omega
  | k + 1, h, j, hj => by
    simp only [lastN] at h
    by_cases hf : f k ≤ n
    · rw [if_pos hf] at h
      cases h
    · rw [if_neg hf] at h
      by_cases e : j = k
      · subst e
        omega
      · exact lastN_none h j (by omega)
theorem ht_zero {b : Int} {cs : List Int} (hi : Inc cs) : ht b cs 0 = b := ht_low cs b 0 hi.1 hi.2
theorem undone_eq {b n : Int} {cs : List Int} (hi : Inc cs) (h40 : ∀ x ∈ cs, x ≤ 40) : undoneL b cs n = lastA b cs n := by
  unfold lastA undoneL
  have z := ht_zero (b := b) hi
  by_cases hb : n < b
  · rw [if_pos hb]
    cases h : lastN (fun i => ht b cs i) n 41 with
    | none => rfl
    | some k =>
      obtain ⟨_, h2, _⟩ := lastN_some h
      have := ht_mono hi.1 b (show (0 : Int) ≤ k by omega)
      try simp only at h2
      omega
  · rw [if_neg hb]
    cases h : lastN (fun i => ht b cs i) n 41 with
    | none =>
      have := lastN_none h 0 (by omega)
      simp only [Int.ofNat_zero] at this
      rw [z] at this
      omega
    | some k =>
      obtain ⟨h1, h2, h3⟩ := lastN_some h
      try simp only at h2 h3
      cases hl : la b cs n with
      | none =>
        have hn := la_none cs b n hi.1 (by omega) hl
        have hk : k = 40 := Classical.byContradiction fun zz => by
          have : n < ht b cs 40 := h3 40 (by omega) (by omega)
          have := hn 40
          omega
        subst hk
        simp only [Nat.lt_irrefl, if_false]
        rw [if_neg]
        intro hr
        have e := ht_end hi.1 b h40 (40 + (n - ht b cs 40 + 1)) (by have := hn 40; omega)
        rw [hr] at e
        have := hn (40 + (n - ht b cs 40 + 1))
        omega
      | some x =>
        obtain ⟨e1, e2⟩ := la_spec cs b n x hi.1 (by omega) hl
        have x0 : 0 ≤ x := Classical.byContradiction fun zz => by
          have := ht_low cs b (x + 1) hi.1 (fun y hy => by have := hi.2 y hy; omega)
          omega
        obtain ⟨m, rfl⟩ := Int.eq_ofNat_of_zero_le x0
        by_cases hm : m < 40
        · have hk : k = m := by
            rcases Nat.lt_trichotomy k m with zz | zz | zz
            · have := h3 m zz (by omega)
              omega
            · exact zz
            · have := ht_mono hi.1 b (show (m : Int) + 1 ≤ k by omega)
              omega
          subst hk
          simp only [hm, if_true]
        · have hk : k = 40 := Classical.byContradiction fun zz => by
            have : n < ht b cs 40 := h3 40 (by omega) (by omega)
            have := ht_mono hi.1 b (show (40 : Int) ≤ m by omega)
            try simp only [Int.ofNat_eq_natCast] at *
            omega
          subst hk
          have a1 := ht_end hi.1 b h40 m (by omega)
          have a2 := ht_end hi.1 b h40 (m + 1) (by omega)
          rcases rise_bd cs with hr | hr
          · rw [hr] at a1 a2
            omega
          · rw [hr] at a1 a2
            simp only [Nat.lt_irrefl, if_false, hr, if_true, Option.some.injEq]
            try simp only [Int.ofNat_eq_natCast] at *
            omega
end L43
end
section
set_option Elab.async false
set_option linter.all false
set_option maxRecDepth 100000
set_option maxHeartbeats 1000000
namespace L43
open PySem PySem.Spec PyProof.Rows L2 Wp
/-! R13: last_at, undone, run -/
def oI : Option Int → D
  | none => .non
  | some x => .int x
abbrev laB : FS := (fSeq (fIf (fOrT (fBl (f2 (fVar 4) (fLit .non) (p2 (gIsN false)))) (fBl (f2 (f2 (f2 (fVar 2) (fVar 4) (p2 gAdd)) (fVar 3) (p2 Wp.gSub)) (fVar 1) (p2 (gCmp (cmpF .Gt)))))) (fRet (f2 (f2 (fVar 3) (fVar 1) (p2 gAdd)) (fVar 2) (p2 Wp.gSub))) fNext)
      (fSet 2 (f2 (f2 (fVar 2) (fVar 4) (p2 gAdd)) (fVar 3) (p2 Wp.gSub))))
theorem la_loop (x0 : Option Val) (n : Int) : ∀ (cs : List Int) (lv : Int) (x3 x4 : Option Val), ∃ x2' x3' x4', loopF (gTp (gsCons (gNm 3) (gsCons (gNm 4) gsNil))) laB ((riD cs).map .sh) [x0, some (.sh (.int n)), some (.sh (.int lv)), x3, x4] =
      some (.ok (match la lv cs n with
        | none => .next
        | some x => .ret (.sh (.int x))) [x0, some (.sh (.int n)), x2', x3', x4'])
  | [], lv, x3, x4 => ⟨some (.sh (.int lv)), x3, x4, by simp [riD, la, loopF, okR]⟩
  | [c], lv, x3, x4 => by
    refine ⟨some (.sh (.int lv)), some (.sh (.int c)), some (.sh .non), ?_⟩
    simp only [la, riD, List.map_cons, List.map_nil]
    repeat first | fail | (refine Lf.mk ?_ <;> first | (simp only [sharE, immD, tupD, Option.map_none, Fi.dv, List.drop_nil, List.drop_zero, List.drop_succ_cons, prepAll, prep1, Val.top, Val.d, ds_sh, Val.ds, esc1, escAll, escS, argAll, pass1, arg1, backAll, back1, shAll, shOf, shAll_map, isOl, shList, itemsT, itemsL, gNm, gTp, gsCons, gsNil, wipeE, outF, List.getElem?_cons_zero, List.getElem?_cons_succ, List.getElem?_nil, List.set_cons_zero, List.set_cons_succ, List.headD_cons, List.headD_nil, List.tail_cons, List.tail_nil, List.length_cons, List.length_nil, List.map_cons, List.map_nil, List.replicate_zero, List.replicate_succ, List.cons_append, List.nil_append, List.append_nil, Nat.reduceAdd, Nat.reduceSub, Nat.reduceLT, Nat.reduceLeDiff, Nat.zero_add, Nat.add_zero, Nat.sub_self, Nat.zero_lt_succ, Nat.add_lt_add_iff_right, if_true, if_false, ite_true, ite_false, reduceIte, Bool.false_eq_true, Option.map_some, Option.bind_some, decide_true, decide_false] <;> first | exact rfl | decide) | exact rfl | decide) | (refine Gp.mk ?_ <;> first | fail | (simp only [p1, p2, gAdd, Wp.gSub, gMul, gMod, gNeg, gCmp, cmpF, cLt, cLe, cGt, cGe, gEq, gNe, gIsN, gSub2, gIx, gLen, gMx2, gMn2, gInt, gBits, truthD, itemsX, itemsL, itemsT, shItems, shAll, shOf, shAll_map, Val.d, ds_sh, Val.ds, List.map_cons, List.map_nil, List.length_cons, List.length_nil, List.length_map, Option.map_some, Option.bind_some, Option.map_none, Option.bind_none, Bool.not_true, Bool.not_false, if_true, if_false, reduceIte, Bool.false_eq_true, numV] <;> exact rfl) | exact rfl) | (refine Sz.mk ?_ <;> first | assumption | fail | (simp [sizeLine_eq]; done) | (simp [sizeLine_eq] <;> omega) | (simp [sizeLine_eq, small62] <;> omega)) | with_reducible (first | apply e_var | apply e_lit | apply e_f1 | apply e_f2 | apply e_fn | apply e_app1 | apply e_app2 | apply e_nil | apply e_cons | apply e_bl | apply e_tru | apply e_notT | apply e_andT | apply e_orT | apply e_andV | apply e_orV | apply e_notV | apply e_ite | apply e_disp | apply e_pt0 | apply e_pt1 | apply e_slice | apply e_lc | apply lc_nil | apply lc_cons | apply e_yes | apply e_seqI | apply e_enum | apply e_rng1 | apply e_rng2 | apply e_callD | apply e_call | apply e_make | apply e_meth | apply e_prop | apply e_attr | apply e_neO | apply e_eqO | apply e_par3 | apply e_seq | apply sq_n | apply sq_r | apply sq_b | apply sq_c | apply e_set | apply e_par | apply e_asg | apply e_expr | apply e_app | apply e_ret | apply e_retN | apply e_nxt | apply e_flw | apply e_if | apply e_for | apply lp_nil | apply lp_cons | apply lp_n | apply lp_c | apply lp_b | apply lp_r | apply e_setI | apply e_setF | apply e_retM | apply e_pure | apply e_pureT | apply e_eqN | apply e_eqTu | apply e_appT | apply e_sem | apply ok_ok) | ((with_reducible refine c_t ?hb ?_); (case hb => decide)) | ((with_reducible refine c_f ?hb ?_); (case hb => decide)) | ((with_reducible refine c_t ?hb ?_); (case hb => first | with_reducible rfl | with_reducible assumption | (simp <;> omega) | omega)) | ((with_reducible refine c_f ?hb ?_); (case hb => first | with_reducible rfl | with_reducible assumption | (simp <;> omega) | omega)) | with_reducible (apply lc_put) | with_reducible (apply lc_skip)
  | c :: d :: r, lv, x3, x4 => by
    simp only [la, riD, List.map_cons]
    by_cases h : n < lv + d - c
    · rw [if_pos h]
      refine ⟨some (.sh (.int lv)), some (.sh (.int c)), some (.sh (.int d)), ?_⟩
      repeat first | fail | (refine Lf.mk ?_ <;> first | (simp only [sharE, immD, tupD, Option.map_none, Fi.dv, List.drop_nil, List.drop_zero, List.drop_succ_cons, prepAll, prep1, Val.top, Val.d, ds_sh, Val.ds, esc1, escAll, escS, argAll, pass1, arg1, backAll, back1, shAll, shOf, shAll_map, isOl, shList, itemsT, itemsL, gNm, gTp, gsCons, gsNil, wipeE, outF, List.getElem?_cons_zero, List.getElem?_cons_succ, List.getElem?_nil, List.set_cons_zero, List.set_cons_succ, List.headD_cons, List.headD_nil, List.tail_cons, List.tail_nil, List.length_cons, List.length_nil, List.map_cons, List.map_nil, List.replicate_zero, List.replicate_succ, List.cons_append, List.nil_append, List.append_nil, Nat.reduceAdd, Nat.reduceSub, Nat.reduceLT, Nat.reduceLeDiff, Nat.zero_add, Nat.add_zero, Nat.sub_self, Nat.zero_lt_succ, Nat.add_lt_add_iff_right, if_true, if_false, ite_true, ite_false, reduceIte, Bool.false_eq_true, Option.map_some, Option.bind_some, decide_true, decide_false] <;> first | exact rfl | decide) | exact rfl | decide) | (refine Gp.mk ?_ <;> first | fail | (simp only [p1, p2, gAdd, Wp.gSub, gMul, gMod, gNeg, gCmp, cmpF, cLt, cLe, cGt, cGe, gEq, gNe, gIsN, gSub2, gIx, gLen, gMx2, gMn2, gInt, gBits, truthD, itemsX, itemsL, itemsT, shItems, shAll, shOf, shAll_map, Val.d, ds_sh, Val.ds, List.map_cons, List.map_nil, List.length_cons, List.length_nil, List.length_map, Option.map_some, Option.bind_some, Option.map_none, Option.bind_none, Bool.not_true, Bool.not_false, if_true, if_false, reduceIte, Bool.false_eq_true, numV] <;> exact rfl) | exact rfl) | (refine Sz.mk ?_ <;> first | assumption | fail | (simp [sizeLine_eq]; done) | (simp [sizeLine_eq] <;> omega) | (simp [sizeLine_eq, small62] <;> omega)) | with_reducible (first | apply e_var | apply e_lit | apply e_f1 | apply e_f2 | apply e_fn | apply e_app1 | apply e_app2 | apply e_nil | apply e_cons | apply e_bl | apply e_tru | apply e_notT | apply e_andT | apply e_orT | apply e_andV | apply e_orV | apply e_notV | apply e_ite | apply e_disp | apply e_pt0 | apply e_pt1 | apply e_slice | apply e_lc | apply lc_nil | apply lc_cons | apply e_yes | apply e_seqI | apply e_enum | apply e_rng1 | apply e_rng2 | apply e_callD | apply e_call | apply e_make | apply e_meth | apply e_prop | apply e_attr | apply e_neO | apply e_eqO | apply e_par3 | apply e_seq | apply sq_n | apply sq_r | apply sq_b | apply sq_c | apply e_set | apply e_par | apply e_asg | apply e_expr | apply e_app | apply e_ret | apply e_retN | apply e_nxt | apply e_flw | apply e_if | apply e_for | apply lp_nil | apply lp_cons | apply lp_n | apply lp_c | apply lp_b | apply lp_r | apply e_setI | apply e_setF | apply e_retM | apply e_pure | apply e_pureT | apply e_eqN | apply e_eqTu | apply e_appT | apply e_sem | apply ok_ok) | ((with_reducible refine c_t ?hb ?_); (case hb => decide)) | ((with_reducible refine c_f ?hb ?_); (case hb => decide)) | ((with_reducible refine c_t ?hb ?_); (case hb => first | with_reducible rfl | with_reducible assumption | (simp <;> omega) | omega)) | ((with_reducible refine c_f ?hb ?_); (case hb => first | with_reducible rfl | with_reducible assumption | (simp <;> omega) | omega)) | with_reducible (apply lc_put) | with_reducible (apply lc_skip)
    · rw [if_neg h]
      obtain ⟨y2, y3, y4, ih⟩ := la_loop x0 n r (lv + d - c) (some (.sh (.int c))) (some (.sh (.int d)))
      refine ⟨y2, y3, y4, ?_⟩
      cases e : la (lv + d - c) r n with
      | none =>
        rw [e] at ih
        simp only at ih ⊢
        repeat first | with_reducible (first | exact ih) | (refine Lf.mk ?_ <;> first | (simp only [sharE, immD, tupD, Option.map_none, Fi.dv, List.drop_nil, List.drop_zero, List.drop_succ_cons, prepAll, prep1, Val.top, Val.d, ds_sh, Val.ds, esc1, escAll, escS, argAll, pass1, arg1, backAll, back1, shAll, shOf, shAll_map, isOl, shList, itemsT, itemsL, gNm, gTp, gsCons, gsNil, wipeE, outF, List.getElem?_cons_zero, List.getElem?_cons_succ, List.getElem?_nil, List.set_cons_zero, List.set_cons_succ, List.headD_cons, List.headD_nil, List.tail_cons, List.tail_nil, List.length_cons, List.length_nil, List.map_cons, List.map_nil, List.replicate_zero, List.replicate_succ, List.cons_append, List.nil_append, List.append_nil, Nat.reduceAdd, Nat.reduceSub, Nat.reduceLT, Nat.reduceLeDiff, Nat.zero_add, Nat.add_zero, Nat.sub_self, Nat.zero_lt_succ, Nat.add_lt_add_iff_right, if_true, if_false, ite_true, ite_false, reduceIte, Bool.false_eq_true, Option.map_some, Option.bind_some, decide_true, decide_false] <;> first | exact rfl | decide) | exact rfl | decide) | (refine Gp.mk ?_ <;> first | with_reducible (first | exact ih) | (simp only [p1, p2, gAdd, Wp.gSub, gMul, gMod, gNeg, gCmp, cmpF, cLt, cLe, cGt, cGe, gEq, gNe, gIsN, gSub2, gIx, gLen, gMx2, gMn2, gInt, gBits, truthD, itemsX, itemsL, itemsT, shItems, shAll, shOf, shAll_map, Val.d, ds_sh, Val.ds, List.map_cons, List.map_nil, List.length_cons, List.length_nil, List.length_map, Option.map_some, Option.bind_some, Option.map_none, Option.bind_none, Bool.not_true, Bool.not_false, if_true, if_false, reduceIte, Bool.false_eq_true, numV] <;> exact rfl) | exact rfl) | (refine Sz.mk ?_ <;> first | assumption | with_reducible (first | exact ih) | (simp [sizeLine_eq]; done) | (simp [sizeLine_eq] <;> omega) | (simp [sizeLine_eq, small62] <;> omega)) | with_reducible (first | apply e_var | apply e_lit | apply e_f1 | apply e_f2 | apply e_fn | apply e_app1 | apply e_app2 | apply e_nil | apply e_cons | apply e_bl | apply e_tru | apply e_notT | apply e_andT | apply e_orT | apply e_andV | apply e_orV | apply e_notV | apply e_ite | apply e_disp | apply e_pt0 | apply e_pt1 | apply e_slice | apply e_lc | apply lc_nil | apply lc_cons | apply e_yes | apply e_seqI | apply e_enum | apply e_rng1 | apply e_rng2 | apply e_callD | apply e_call | apply e_make | apply e_meth | apply e_prop | apply e_attr | apply e_neO | apply e_eqO | apply e_par3 | apply e_seq | apply sq_n | apply sq_r | apply sq_b | apply sq_c | apply e_set | apply e_par | apply e_asg | apply e_expr | apply e_app | apply e_ret | apply e_retN | apply e_nxt | apply e_flw | apply e_if | apply e_for | apply lp_nil | apply lp_cons | apply lp_n | apply lp_c | apply lp_b | apply lp_r | apply e_setI | apply e_setF | apply e_retM | apply e_pure | apply e_pureT | apply e_eqN | apply e_eqTu | apply e_appT | apply e_sem | apply ok_ok) | ((with_reducible refine c_t ?hb ?_); (case hb => decide)) | ((with_reducible refine c_f ?hb ?_); (case hb => decide)) | ((with_reducible refine c_t ?hb ?_); (case hb => first | with_reducible rfl | with_reducible assumption | (simp <;> omega) | omega)) | ((with_reducible refine c_f ?hb ?_); (case hb => first | with_reducible rfl | with_reducible assumption | (simp <;> omega) | omega)) | with_reducible (apply lc_put) | with_reducible (apply lc_skip)
      | some x =>
        rw [e] at ih
        simp only at ih ⊢
        repeat first | with_reducible (first | exact ih) | (refine Lf.mk ?_ <;> first | (simp only [sharE, immD, tupD, Option.map_none, Fi.dv, List.drop_nil, List.drop_zero, List.drop_succ_cons, prepAll, prep1, Val.top, Val.d, ds_sh, Val.ds, esc1, escAll, escS, argAll, pass1, arg1, backAll, back1, shAll, shOf, shAll_map, isOl, shList, itemsT, itemsL, gNm, gTp, gsCons, gsNil, wipeE, outF, List.getElem?_cons_zero, List.getElem?_cons_succ, List.getElem?_nil, List.set_cons_zero, List.set_cons_succ, List.headD_cons, List.headD_nil, List.tail_cons, List.tail_nil, List.length_cons, List.length_nil, List.map_cons, List.map_nil, List.replicate_zero, List.replicate_succ, List.cons_append, List.nil_append, List.append_nil, Nat.reduceAdd, Nat.reduceSub, Nat.reduceLT, Nat.reduceLeDiff, Nat.zero_add, Nat.add_zero, Nat.sub_self, Nat.zero_lt_succ, Nat.add_lt_add_iff_right, if_true, if_false, ite_true, ite_false, reduceIte, Bool.false_eq_true, Option.map_some, Option.bind_some, decide_true, decide_false] <;> first | exact rfl | decide) | exact rfl | decide) | (refine Gp.mk ?_ <;> first | with_reducible (first | exact ih) | (simp only [p1, p2, gAdd, Wp.gSub, gMul, gMod, gNeg, gCmp, cmpF, cLt, cLe, cGt, cGe, gEq, gNe, gIsN, gSub2, gIx, gLen, gMx2, gMn2, gInt, gBits, truthD, itemsX, itemsL, itemsT, shItems, shAll, shOf, shAll_map, Val.d, ds_sh, Val.ds, List.map_cons, List.map_nil, List.length_cons, List.length_nil, List.length_map, Option.map_some, Option.bind_some, Option.map_none, Option.bind_none, Bool.not_true, Bool.not_false, if_true, if_false, reduceIte, Bool.false_eq_true, numV] <;> exact rfl) | exact rfl) | (refine Sz.mk ?_ <;> first | assumption | with_reducible (first | exact ih) | (simp [sizeLine_eq]; done) | (simp [sizeLine_eq] <;> omega) | (simp [sizeLine_eq, small62] <;> omega)) | with_reducible (first | apply e_var | apply e_lit | apply e_f1 | apply e_f2 | apply e_fn | apply e_app1 | apply e_app2 | apply e_nil | apply e_cons | apply e_bl | apply e_tru | apply e_notT | apply e_andT | apply e_orT | apply e_andV | apply e_orV | apply e_notV | apply e_ite | apply e_disp | apply e_pt0 | apply e_pt1 | apply e_slice | apply e_lc | apply lc_nil | apply lc_cons | apply e_yes | apply e_seqI | apply e_enum | apply e_rng1 | apply e_rng2 | apply e_callD | apply e_call | apply e_make | apply e_meth | apply e_prop | apply e_attr | apply e_neO | apply e_eqO | apply e_par3 | apply e_seq | apply sq_n | apply sq_r | apply sq_b | apply sq_c | apply e_set | apply e_par | apply e_asg | apply e_expr | apply e_app | apply e_ret | apply e_retN | apply e_nxt | apply e_flw | apply e_if | apply e_for | apply lp_nil | apply lp_cons | apply lp_n | apply lp_c | apply lp_b | apply lp_r | apply e_setI | apply e_setF | apply e_retM | apply e_pure | apply e_pureT | apply e_eqN | apply e_eqTu | apply e_appT | apply e_sem | apply ok_ok) | ((with_reducible refine c_t ?hb ?_); (case hb => decide)) | ((with_reducible refine c_f ?hb ?_); (case hb => decide)) | ((with_reducible refine c_t ?hb ?_); (case hb => first | with_reducible rfl | with_reducible assumption | (simp <;> omega) | omega)) | ((with_reducible refine c_f ?hb ?_); (case hb => first | with_reducible rfl | with_reducible assumption | (simp <;> omega) | omega)) | with_reducible (apply lc_put) | with_reducible (apply lc_skip)
theorem F_last_at (b : Int) (cs : List Int) (n : Int) (hl : cs.length < 900) : F_Stair_last_at [.sh (stD b cs), .sh (.int n)] = some (.ok (.sh (oI (lastA b cs n))) [some (.sh (stD b cs)), some (.sh (.int n))]) := by
  obtain ⟨x2, x3, x4, hlp⟩ := la_loop (some (.sh (stD b cs))) n cs b none none
  have hr := F_rises b cs hl
  unfold lastA F_Stair_last_at
  by_cases h : n < b
  · rw [if_pos h]
    repeat first | with_reducible (first | exact at_base (b := b) (cs := cs) rfl) | (refine Lf.mk ?_ <;> first | (simp only [sharE, immD, tupD, Option.map_none, Fi.dv, List.drop_nil, List.drop_zero, List.drop_succ_cons, prepAll, prep1, Val.top, Val.d, ds_sh, Val.ds, esc1, escAll, escS, argAll, pass1, arg1, backAll, back1, shAll, shOf, shAll_map, isOl, shList, itemsT, itemsL, gNm, gTp, gsCons, gsNil, wipeE, outF, List.getElem?_cons_zero, List.getElem?_cons_succ, List.getElem?_nil, List.set_cons_zero, List.set_cons_succ, List.headD_cons, List.headD_nil, List.tail_cons, List.tail_nil, List.length_cons, List.length_nil, List.map_cons, List.map_nil, List.replicate_zero, List.replicate_succ, List.cons_append, List.nil_append, List.append_nil, Nat.reduceAdd, Nat.reduceSub, Nat.reduceLT, Nat.reduceLeDiff, Nat.zero_add, Nat.add_zero, Nat.sub_self, Nat.zero_lt_succ, Nat.add_lt_add_iff_right, if_true, if_false, ite_true, ite_false, reduceIte, Bool.false_eq_true, Option.map_some, Option.bind_some, decide_true, decide_false, oI] <;> first | exact rfl | decide) | exact rfl | decide) | (refine Gp.mk ?_ <;> first | with_reducible (first | exact at_base (b := b) (cs := cs) rfl) | (simp only [p1, p2, gAdd, Wp.gSub, gMul, gMod, gNeg, gCmp, cmpF, cLt, cLe, cGt, cGe, gEq, gNe, gIsN, gSub2, gIx, gLen, gMx2, gMn2, gInt, gBits, truthD, itemsX, itemsL, itemsT, shItems, shAll, shOf, shAll_map, Val.d, ds_sh, Val.ds, List.map_cons, List.map_nil, List.length_cons, List.length_nil, List.length_map, Option.map_some, Option.bind_some, Option.map_none, Option.bind_none, Bool.not_true, Bool.not_false, if_true, if_false, reduceIte, Bool.false_eq_true, numV, oI] <;> exact rfl) | exact rfl) | (refine Sz.mk ?_ <;> first | assumption | with_reducible (first | exact at_base (b := b) (cs := cs) rfl) | (simp [sizeLine_eq]; done) | (simp [sizeLine_eq] <;> omega) | (simp [sizeLine_eq, small62] <;> omega)) | with_reducible (first | apply e_var | apply e_lit | apply e_f1 | apply e_f2 | apply e_fn | apply e_app1 | apply e_app2 | apply e_nil | apply e_cons | apply e_bl | apply e_tru | apply e_notT | apply e_andT | apply e_orT | apply e_andV | apply e_orV | apply e_notV | apply e_ite | apply e_disp | apply e_pt0 | apply e_pt1 | apply e_slice | apply e_lc | apply lc_nil | apply lc_cons | apply e_yes | apply e_seqI | apply e_enum | apply e_rng1 | apply e_rng2 | apply e_callD | apply e_call | apply e_make | apply e_meth | apply e_prop | apply e_attr | apply e_neO | apply e_eqO | apply e_par3 | apply e_seq | apply sq_n | apply sq_r | apply sq_b | apply sq_c | apply e_set | apply e_par | apply e_asg | apply e_expr | apply e_app | apply e_ret | apply e_retN | apply e_nxt | apply e_flw | apply e_if | apply e_for | apply lp_nil | apply lp_cons | apply lp_n | apply lp_c | apply lp_b | apply lp_r | apply e_setI | apply e_setF | apply e_retM | apply e_pure | apply e_pureT | apply e_eqN | apply e_eqTu | apply e_appT | apply e_sem | apply ok_ok) | ((with_reducible refine c_t ?hb ?_); (case hb => decide)) | ((with_reducible refine c_f ?hb ?_); (case hb => decide)) | ((with_reducible refine c_t ?hb ?_); (case hb => first | with_reducible rfl | with_reducible assumption | (simp [oI] <;> omega) | omega)) | ((with_reducible refine c_f ?hb ?_); (case hb => first | with_reducible rfl | with_reducible assumption | (simp [oI] <;> omega) | omega)) | with_reducible (apply lc_put) | with_reducible (apply lc_skip)
  · rw [if_neg h]
    cases hla : la b cs n with
    | none =>
      rw [hla] at hlp
      simp only at hlp
      repeat first | with_reducible (first | exact at_base (b := b) (cs := cs) rfl | exact hr | exact hlp) | (refine Lf.mk ?_ <;> first | (simp only [sharE, immD, tupD, Option.map_none, Fi.dv, List.drop_nil, List.drop_zero, List.drop_succ_cons, prepAll, prep1, Val.top, Val.d, ds_sh, Val.ds, esc1, escAll, escS, argAll, pass1, arg1, backAll, back1, shAll, shOf, shAll_map, isOl, shList, itemsT, itemsL, gNm, gTp, gsCons, gsNil, wipeE, outF, List.getElem?_cons_zero, List.getElem?_cons_succ, List.getElem?_nil, List.set_cons_zero, List.set_cons_succ, List.headD_cons, List.headD_nil, List.tail_cons, List.tail_nil, List.length_cons, List.length_nil, List.map_cons, List.map_nil, List.replicate_zero, List.replicate_succ, List.cons_append, List.nil_append, List.append_nil, Nat.reduceAdd, Nat.reduceSub, Nat.reduceLT, Nat.reduceLeDiff, Nat.zero_add, Nat.add_zero, Nat.sub_self, Nat.zero_lt_succ, Nat.add_lt_add_iff_right, if_true, if_false, ite_true, ite_false, reduceIte, Bool.false_eq_true, Option.map_some, Option.bind_some, decide_true, decide_false, oI] <;> first | exact rfl | decide) | exact rfl | decide) | (refine Gp.mk ?_ <;> first | with_reducible (first | exact at_base (b := b) (cs := cs) rfl | exact hr | exact hlp) | (simp only [p1, p2, gAdd, Wp.gSub, gMul, gMod, gNeg, gCmp, cmpF, cLt, cLe, cGt, cGe, gEq, gNe, gIsN, gSub2, gIx, gLen, gMx2, gMn2, gInt, gBits, truthD, itemsX, itemsL, itemsT, shItems, shAll, shOf, shAll_map, Val.d, ds_sh, Val.ds, List.map_cons, List.map_nil, List.length_cons, List.length_nil, List.length_map, Option.map_some, Option.bind_some, Option.map_none, Option.bind_none, Bool.not_true, Bool.not_false, if_true, if_false, reduceIte, Bool.false_eq_true, numV, oI] <;> exact rfl) | exact rfl) | (refine Sz.mk ?_ <;> first | assumption | with_reducible (first | exact at_base (b := b) (cs := cs) rfl | exact hr | exact hlp) | (simp [sizeLine_eq]; done) | (simp [sizeLine_eq] <;> omega) | (simp [sizeLine_eq, small62] <;> omega)) | with_reducible (first | apply e_var | apply e_lit | apply e_f1 | apply e_f2 | apply e_fn | apply e_app1 | apply e_app2 | apply e_nil | apply e_cons | apply e_bl | apply e_tru | apply e_notT | apply e_andT | apply e_orT | apply e_andV | apply e_orV | apply e_notV | apply e_ite | apply e_disp | apply e_pt0 | apply e_pt1 | apply e_slice | apply e_lc | apply lc_nil | apply lc_cons | apply e_yes | apply e_seqI | apply e_enum | apply e_rng1 | apply e_rng2 | apply e_callD | apply e_call | apply e_make | apply e_meth | apply e_prop | apply e_attr | apply e_neO | apply e_eqO | apply e_par3 | apply e_seq | apply sq_n | apply sq_r | apply sq_b | apply sq_c | apply e_set | apply e_par | apply e_asg | apply e_expr | apply e_app | apply e_ret | apply e_retN | apply e_nxt | apply e_flw | apply e_if | apply e_for | apply lp_nil | apply lp_cons | apply lp_n | apply lp_c | apply lp_b | apply lp_r | apply e_setI | apply e_setF | apply e_retM | apply e_pure | apply e_pureT | apply e_eqN | apply e_eqTu | apply e_appT | apply e_sem | apply ok_ok) | ((with_reducible refine c_t ?hb ?_); (case hb => decide)) | ((with_reducible refine c_f ?hb ?_); (case hb => decide)) | ((with_reducible refine c_t ?hb ?_); (case hb => first | with_reducible rfl | with_reducible assumption | (simp [oI] <;> omega) | omega)) | ((with_reducible refine c_f ?hb ?_); (case hb => first | with_reducible rfl | with_reducible assumption | (simp [oI] <;> omega) | omega)) | with_reducible (apply lc_put) | with_reducible (apply lc_skip)
    | some x =>
      rw [hla] at hlp
      simp only at hlp
      repeat first | with_reducible (first | exact at_base (b := b) (cs := cs) rfl | exact hr | exact hlp) | (refine Lf.mk ?_ <;> first | (simp only [sharE, immD, tupD, Option.map_none, Fi.dv, List.drop_nil, List.drop_zero, List.drop_succ_cons, prepAll, prep1, Val.top, Val.d, ds_sh, Val.ds, esc1, escAll, escS, argAll, pass1, arg1, backAll, back1, shAll, shOf, shAll_map, isOl, shList, itemsT, itemsL, gNm, gTp, gsCons, gsNil, wipeE, outF, List.getElem?_cons_zero, List.getElem?_cons_succ, List.getElem?_nil, List.set_cons_zero, List.set_cons_succ, List.headD_cons, List.headD_nil, List.tail_cons, List.tail_nil, List.length_cons, List.length_nil, List.map_cons, List.map_nil, List.replicate_zero, List.replicate_succ, List.cons_append, List.nil_append, List.append_nil, Nat.reduceAdd, Nat.reduceSub, Nat.reduceLT, Nat.reduceLeDiff, Nat.zero_add, Nat.add_zero, Nat.sub_self, Nat.zero_lt_succ, Nat.add_lt_add_iff_right, if_true, if_false, ite_true, ite_false, reduceIte, Bool.false_eq_true, Option.map_some, Option.bind_some, decide_true, decide_false, oI] <;> first | exact rfl | decide) | exact rfl | decide) | (refine Gp.mk ?_ <;> first | with_reducible (first | exact at_base (b := b) (cs := cs) rfl | exact hr | exact hlp) | (simp only [p1, p2, gAdd, Wp.gSub, gMul, gMod, gNeg, gCmp, cmpF, cLt, cLe, cGt, cGe, gEq, gNe, gIsN, gSub2, gIx, gLen, gMx2, gMn2, gInt, gBits, truthD, itemsX, itemsL, itemsT, shItems, shAll, shOf, shAll_map, Val.d, ds_sh, Val.ds, List.map_cons, List.map_nil, List.length_cons, List.length_nil, List.length_map, Option.map_some, Option.bind_some, Option.map_none, Option.bind_none, Bool.not_true, Bool.not_false, if_true, if_false, reduceIte, Bool.false_eq_true, numV, oI] <;> exact rfl) | exact rfl) | (refine Sz.mk ?_ <;> first | assumption | with_reducible (first | exact at_base (b := b) (cs := cs) rfl | exact hr | exact hlp) | (simp [sizeLine_eq]; done) | (simp [sizeLine_eq] <;> omega) | (simp [sizeLine_eq, small62] <;> omega)) | with_reducible (first | apply e_var | apply e_lit | apply e_f1 | apply e_f2 | apply e_fn | apply e_app1 | apply e_app2 | apply e_nil | apply e_cons | apply e_bl | apply e_tru | apply e_notT | apply e_andT | apply e_orT | apply e_andV | apply e_orV | apply e_notV | apply e_ite | apply e_disp | apply e_pt0 | apply e_pt1 | apply e_slice | apply e_lc | apply lc_nil | apply lc_cons | apply e_yes | apply e_seqI | apply e_enum | apply e_rng1 | apply e_rng2 | apply e_callD | apply e_call | apply e_make | apply e_meth | apply e_prop | apply e_attr | apply e_neO | apply e_eqO | apply e_par3 | apply e_seq | apply sq_n | apply sq_r | apply sq_b | apply sq_c | apply e_set | apply e_par | apply e_asg | apply e_expr | apply e_app | apply e_ret | apply e_retN | apply e_nxt | apply e_flw | apply e_if | apply e_for | apply lp_nil | apply lp_cons | apply lp_n | apply lp_c | apply lp_b | apply lp_r | apply e_setI | apply e_setF | apply e_retM | apply e_pure | apply e_pureT | apply e_eqN | apply e_eqTu | apply e_appT | apply e_sem | apply ok_ok) | ((with_reducible refine c_t ?hb ?_); (case hb => decide)) | ((with_reducible refine c_f ?hb ?_); (case hb => decide)) | ((with_reducible refine c_t ?hb ?_); (case hb => first | with_reducible rfl | with_reducible assumption | (simp [oI] <;> omega) | omega)) | ((with_reducible refine c_f ?hb ?_); (case hb => first | with_reducible rfl | with_reducible assumption | (simp [oI] <;> omega) | omega)) | with_reducible (apply lc_put) | with_reducible (apply lc_skip)
theorem F_und (b : Int) (cs : List Int) (n : Int) (hl : cs.length < 900) : F_Stair_undone [.sh (stD b cs), .sh (.int n)] = some (.ok (.sh (oI (lastA b cs n))) [some (.sh (stD b cs)), some (.sh (.int n))]) := by
  have h1 := F_chkw n
  have h2 := F_last_at b cs n hl
  unfold F_Stair_undone
  repeat first | with_reducible (first | exact h1 | exact h2) | (refine Lf.mk ?_ <;> first | (simp only [sharE, immD, tupD, Option.map_none, Fi.dv, List.drop_nil, List.drop_zero, List.drop_succ_cons, prepAll, prep1, Val.top, Val.d, ds_sh, Val.ds, esc1, escAll, escS, argAll, pass1, arg1, backAll, back1, shAll, shOf, shAll_map, isOl, shList, itemsT, itemsL, gNm, gTp, gsCons, gsNil, wipeE, outF, List.getElem?_cons_zero, List.getElem?_cons_succ, List.getElem?_nil, List.set_cons_zero, List.set_cons_succ, List.headD_cons, List.headD_nil, List.tail_cons, List.tail_nil, List.length_cons, List.length_nil, List.map_cons, List.map_nil, List.replicate_zero, List.replicate_succ, List.cons_append, List.nil_append, List.append_nil, Nat.reduceAdd, Nat.reduceSub, Nat.reduceLT, Nat.reduceLeDiff, Nat.zero_add, Nat.add_zero, Nat.sub_self, Nat.zero_lt_succ, Nat.add_lt_add_iff_right, if_true, if_false, ite_true, ite_false, reduceIte, Bool.false_eq_true, Option.map_some, Option.bind_some, decide_true, decide_false] <;> first | exact rfl | decide) | exact rfl | decide) | (refine Gp.mk ?_ <;> first | with_reducible (first | exact h1 | exact h2) | (simp only [p1, p2, gAdd, Wp.gSub, gMul, gMod, gNeg, gCmp, cmpF, cLt, cLe, cGt, cGe, gEq, gNe, gIsN, gSub2, gIx, gLen, gMx2, gMn2, gInt, gBits, truthD, itemsX, itemsL, itemsT, shItems, shAll, shOf, shAll_map, Val.d, ds_sh, Val.ds, List.map_cons, List.map_nil, List.length_cons, List.length_nil, List.length_map, Option.map_some, Option.bind_some, Option.map_none, Option.bind_none, Bool.not_true, Bool.not_false, if_true, if_false, reduceIte, Bool.false_eq_true, numV] <;> exact rfl) | exact rfl) | (refine Sz.mk ?_ <;> first | assumption | with_reducible (first | exact h1 | exact h2) | (simp [sizeLine_eq]; done) | (simp [sizeLine_eq] <;> omega) | (simp [sizeLine_eq, small62] <;> omega)) | with_reducible (first | apply e_var | apply e_lit | apply e_f1 | apply e_f2 | apply e_fn | apply e_app1 | apply e_app2 | apply e_nil | apply e_cons | apply e_bl | apply e_tru | apply e_notT | apply e_andT | apply e_orT | apply e_andV | apply e_orV | apply e_notV | apply e_ite | apply e_disp | apply e_pt0 | apply e_pt1 | apply e_slice | apply e_lc | apply lc_nil | apply lc_cons | apply e_yes | apply e_seqI | apply e_enum | apply e_rng1 | apply e_rng2 | apply e_callD | apply e_call | apply e_make | apply e_meth | apply e_prop | apply e_attr | apply e_neO | apply e_eqO | apply e_par3 | apply e_seq | apply sq_n | apply sq_r | apply sq_b | apply sq_c | apply e_set | apply e_par | apply e_asg | apply e_expr | apply e_app | apply e_ret | apply e_retN | apply e_nxt | apply e_flw | apply e_if | apply e_for | apply lp_nil | apply lp_cons | apply lp_n | apply lp_c | apply lp_b | apply lp_r | apply e_setI | apply e_setF | apply e_retM | apply e_pure | apply e_pureT | apply e_eqN | apply e_eqTu | apply e_appT | apply e_sem | apply ok_ok) | ((with_reducible refine c_t ?hb ?_); (case hb => decide)) | ((with_reducible refine c_f ?hb ?_); (case hb => decide)) | ((with_reducible refine c_t ?hb ?_); (case hb => first | with_reducible rfl | with_reducible assumption | (simp <;> omega) | omega)) | ((with_reducible refine c_f ?hb ?_); (case hb => first | with_reducible rfl | with_reducible assumption | (simp <;> omega) | omega)) | with_reducible (apply lc_put) | with_reducible (apply lc_skip)
/-! the law's own -/
def rgI (n : Nat) (f : Nat → Int) : List Int := (List.range n).map f
theorem rgI_len (n : Nat) (f : Nat → Int) : (rgI n f).length = n := by simp [rgI]
theorem rgI_at {n : Nat} {f : Nat → Int} {i : Nat} (h : i < n) : gSub2 (il (rgI n f)) (.int i) = some (.sh (.int (f i))) := by
  have : atI ((rgI n f).map D.int) (i : Int) = some (.int (f i)) := by
    refine atI_nat ?_
    unfold rgI
    simp [h]
  show (atI ((rgI n f).map D.int) (i : Int)).map Val.sh = _
  rw [this]
  rfl
theorem rgI_last {n : Nat} {f : Nat → Int} : (rgI (n + 1) f).getLast? = some (f n) := by
  unfold rgI
  rw [List.range_succ, List.map_append]
  simp
theorem rgI_snoc {n : Nat} {f : Nat → Int} : rgI n f ++ [f n] = rgI (n + 1) f := by
  unfold rgI
  rw [List.range_succ, List.map_append]
  rfl
theorem at_m1 {xs : List Int} {v : Int} (h : xs.getLast? = some v) : gSub2 (il xs) (.int (-1)) = some (.sh (.int v)) := by
  show (atI (xs.map D.int) (-1)).map Val.sh = _
  rw [atI_end h]
  rfl
theorem rng_mem {n : Nat} {y : Val} (h : y ∈ rngV 0 n) : ∃ i : Nat, i < n ∧ y = .sh (.int i) := by
  unfold rngV at h
  simp only [List.mem_map, List.mem_range] at h
  obtain ⟨i, h, rfl⟩ := h
  exact ⟨i, h, by rw [Int.zero_add]⟩
def tLe (f : Nat → Int) (n : Int) : Val → Bool
  | .sh (.int i) => decide (f i.toNat ≤ n)
  | _ => false
def leL (f : Nat → Int) (n : Int) (k : Nat) : List Int := ((List.range k).filter fun i => decide (f i ≤ n)).map fun i : Nat => (i : Int)
theorem leL_eq (f : Nat → Int) (n : Int) (k : Nat) : ((rngV 0 k).filter (tLe f n)).map id = ((leL f n k).map D.int).map .sh := by
  unfold rngV leL
  rw [List.filter_map, List.map_id, List.map_map, List.map_map]
  have e : (tLe f n ∘ fun i : Nat => Val.sh (.int (0 + i))) = fun i => decide (f i ≤ n) := by
    funext i
    simp [tLe]
  rw [e]
  refine List.map_congr_left fun i _ => ?_
  simp [Function.comp]
theorem leL_last (f : Nat → Int) (n : Int) : ∀ k, (leL f n k).getLast? = (lastN f n k).map fun i : Nat => (i : Int)
  | 0 => rfl
  | k + 1 => by
    have ih := leL_last f n k
    unfold leL at ih ⊢
    rw [List.range_succ, List.filter_append, List.map_append]
    simp only [lastN]
    by_cases h : f k ≤ n
    · rw [if_pos h, List.filter_cons_of_pos (by simpa using h)]
      simp
    · rw [if_neg h, List.filter_cons_of_neg (by simpa using h)]
      simpa using ih
section
variable (f : Nat → Int) (n : Int) (x2 : Option Val)
abbrev luE : Wp.Env := [some (.sh (il (rgI 41 f))), some (.sh (.int n)), x2, none, none]
theorem lu_lc : fLc 5 [4] (fRng1 (fCons (fn (fCons (fVar 0) fNil) (p1 gLen)) fNil)) (gNm 4) (fBl (f2 (f2 (fVar 0) (fVar 4) (p2 gSub2)) (fVar 1) (p2 (gCmp (cmpF .LtE))))) (fVar 4) (luE f n x2) = some (.ok (.pend (iv (leL f n 41))) (luE f n x2)) := by
  have hi : fRng1 (fCons (fn (fCons (fVar 0) fNil) (p1 gLen)) fNil) (luE f n x2) = some (.ok (rngV 0 41) (luE f n x2)) := by
    have hg : gLen (il (rgI 41 f)) = some (.sh (.int 41)) := by
      show some (Val.sh (.int (((rgI 41 f).map D.int).length : Int))) = _
      rw [List.length_map, rgI_len]
      rfl
    have : rngV 0 (41 : Int).toNat = rngV 0 41 := rfl
    rw [← this]
    unfold luE
    generalize il (rgI 41 f) = I at *
    repeat first | with_reducible (first | exact hg) | (refine Lf.mk ?_ <;> first | (simp only [sharE, immD, tupD, Option.map_none, Fi.dv, List.drop_nil, List.drop_zero, List.drop_succ_cons, prepAll, prep1, Val.top, Val.d, ds_sh, Val.ds, esc1, escAll, escS, argAll, pass1, arg1, backAll, back1, shAll, shOf, shAll_map, isOl, shList, itemsT, itemsL, gNm, gTp, gsCons, gsNil, wipeE, outF, List.getElem?_cons_zero, List.getElem?_cons_succ, List.getElem?_nil, List.set_cons_zero, List.set_cons_succ, List.headD_cons, List.headD_nil, List.tail_cons, List.tail_nil, List.length_cons, List.length_nil, List.map_cons, List.map_nil, List.replicate_zero, List.replicate_succ, List.cons_append, List.nil_append, List.append_nil, Nat.reduceAdd, Nat.reduceSub, Nat.reduceLT, Nat.reduceLeDiff, Nat.zero_add, Nat.add_zero, Nat.sub_self, Nat.zero_lt_succ, Nat.add_lt_add_iff_right, if_true, if_false, ite_true, ite_false, reduceIte, Bool.false_eq_true, Option.map_some, Option.bind_some, decide_true, decide_false] <;> first | exact rfl | decide) | exact rfl | decide) | (refine Gp.mk ?_ <;> first | with_reducible (first | exact hg) | (simp only [p1, p2, gAdd, Wp.gSub, gMul, gMod, gNeg, gCmp, cmpF, cLt, cLe, cGt, cGe, gEq, gNe, gIsN, gSub2, gIx, gLen, gMx2, gMn2, gInt, gBits, truthD, itemsX, itemsL, itemsT, shItems, shAll, shOf, shAll_map, Val.d, ds_sh, Val.ds, List.map_cons, List.map_nil, List.length_cons, List.length_nil, List.length_map, Option.map_some, Option.bind_some, Option.map_none, Option.bind_none, Bool.not_true, Bool.not_false, if_true, if_false, reduceIte, Bool.false_eq_true, numV] <;> exact rfl) | exact rfl) | (refine Sz.mk ?_ <;> first | assumption | with_reducible (first | exact hg) | (simp [sizeLine_eq]; done) | (simp [sizeLine_eq] <;> omega) | (simp [sizeLine_eq, small62] <;> omega)) | with_reducible (first | apply e_var | apply e_lit | apply e_f1 | apply e_f2 | apply e_fn | apply e_app1 | apply e_app2 | apply e_nil | apply e_cons | apply e_bl | apply e_tru | apply e_notT | apply e_andT | apply e_orT | apply e_andV | apply e_orV | apply e_notV | apply e_ite | apply e_disp | apply e_pt0 | apply e_pt1 | apply e_slice | apply e_lc | apply lc_nil | apply lc_cons | apply e_yes | apply e_seqI | apply e_enum | apply e_rng1 | apply e_rng2 | apply e_callD | apply e_call | apply e_make | apply e_meth | apply e_prop | apply e_attr | apply e_neO | apply e_eqO | apply e_par3 | apply e_seq | apply sq_n | apply sq_r | apply sq_b | apply sq_c | apply e_set | apply e_par | apply e_asg | apply e_expr | apply e_app | apply e_ret | apply e_retN | apply e_nxt | apply e_flw | apply e_if | apply e_for | apply lp_nil | apply lp_cons | apply lp_n | apply lp_c | apply lp_b | apply lp_r | apply e_setI | apply e_setF | apply e_retM | apply e_pure | apply e_pureT | apply e_eqN | apply e_eqTu | apply e_appT | apply e_sem | apply ok_ok) | ((with_reducible refine c_t ?hb ?_); (case hb => decide)) | ((with_reducible refine c_f ?hb ?_); (case hb => decide)) | ((with_reducible refine c_t ?hb ?_); (case hb => first | with_reducible rfl | with_reducible assumption | (simp <;> omega) | omega)) | ((with_reducible refine c_f ?hb ?_); (case hb => first | with_reducible rfl | with_reducible assumption | (simp <;> omega) | omega)) | with_reducible (apply lc_put) | with_reducible (apply lc_skip)
  refine e_lc hi ⟨rfl⟩ ⟨rfl⟩ ?_
  rw [loopC_pure (tLe f n) id]
  · rw [leL_eq, List.nil_append]
    rfl
  · rw [sizeLine_eq, rngV_len]
    simp
  · intro y hy
    obtain ⟨i, hi, rfl⟩ := rng_mem hy
    have hg := rgI_at (f := f) hi
    refine ⟨[some (.sh (il (rgI 41 f))), some (.sh (.int n)), x2, none, some (.sh (.int i))], rfl, rfl, [some (.sh (il (rgI 41 f))), some (.sh (.int n)), x2, none, some (.sh (.int i))], ?_, fun _ => ⟨.slot 4, _, _, rfl, rfl, rfl⟩, fun _ => rfl⟩
    show _ = some (Res.ok (decide (f ((i : Int).toNat) ≤ n)) _)
    rw [Int.toNat_natCast]
    generalize il (rgI 41 f) = I at *
    repeat first | with_reducible (first | exact hg) | (refine Lf.mk ?_ <;> first | (simp only [sharE, immD, tupD, Option.map_none, Fi.dv, List.drop_nil, List.drop_zero, List.drop_succ_cons, prepAll, prep1, Val.top, Val.d, ds_sh, Val.ds, esc1, escAll, escS, argAll, pass1, arg1, backAll, back1, shAll, shOf, shAll_map, isOl, shList, itemsT, itemsL, gNm, gTp, gsCons, gsNil, wipeE, outF, List.getElem?_cons_zero, List.getElem?_cons_succ, List.getElem?_nil, List.set_cons_zero, List.set_cons_succ, List.headD_cons, List.headD_nil, List.tail_cons, List.tail_nil, List.length_cons, List.length_nil, List.map_cons, List.map_nil, List.replicate_zero, List.replicate_succ, List.cons_append, List.nil_append, List.append_nil, Nat.reduceAdd, Nat.reduceSub, Nat.reduceLT, Nat.reduceLeDiff, Nat.zero_add, Nat.add_zero, Nat.sub_self, Nat.zero_lt_succ, Nat.add_lt_add_iff_right, if_true, if_false, ite_true, ite_false, reduceIte, Bool.false_eq_true, Option.map_some, Option.bind_some, decide_true, decide_false] <;> first | exact rfl | decide) | exact rfl | decide) | (refine Gp.mk ?_ <;> first | with_reducible (first | exact hg) | (simp only [p1, p2, gAdd, Wp.gSub, gMul, gMod, gNeg, gCmp, cmpF, cLt, cLe, cGt, cGe, gEq, gNe, gIsN, gSub2, gIx, gLen, gMx2, gMn2, gInt, gBits, truthD, itemsX, itemsL, itemsT, shItems, shAll, shOf, shAll_map, Val.d, ds_sh, Val.ds, List.map_cons, List.map_nil, List.length_cons, List.length_nil, List.length_map, Option.map_some, Option.bind_some, Option.map_none, Option.bind_none, Bool.not_true, Bool.not_false, if_true, if_false, reduceIte, Bool.false_eq_true, numV] <;> exact rfl) | exact rfl) | (refine Sz.mk ?_ <;> first | assumption | with_reducible (first | exact hg) | (simp [sizeLine_eq]; done) | (simp [sizeLine_eq] <;> omega) | (simp [sizeLine_eq, small62] <;> omega)) | with_reducible (first | apply e_var | apply e_lit | apply e_f1 | apply e_f2 | apply e_fn | apply e_app1 | apply e_app2 | apply e_nil | apply e_cons | apply e_bl | apply e_tru | apply e_notT | apply e_andT | apply e_orT | apply e_andV | apply e_orV | apply e_notV | apply e_ite | apply e_disp | apply e_pt0 | apply e_pt1 | apply e_slice | apply e_lc | apply lc_nil | apply lc_cons | apply e_yes | apply e_seqI | apply e_enum | apply e_rng1 | apply e_rng2 | apply e_callD | apply e_call | apply e_make | apply e_meth | apply e_prop | apply e_attr | apply e_neO | apply e_eqO | apply e_par3 | apply e_seq | apply sq_n | apply sq_r | apply sq_b | apply sq_c | apply e_set | apply e_par | apply e_asg | apply e_expr | apply e_app | apply e_ret | apply e_retN | apply e_nxt | apply e_flw | apply e_if | apply e_for | apply lp_nil | apply lp_cons | apply lp_n | apply lp_c | apply lp_b | apply lp_r | apply e_setI | apply e_setF | apply e_retM | apply e_pure | apply e_pureT | apply e_eqN | apply e_eqTu | apply e_appT | apply e_sem | apply ok_ok) | ((with_reducible refine c_t ?hb ?_); (case hb => decide)) | ((with_reducible refine c_f ?hb ?_); (case hb => decide)) | ((with_reducible refine c_t ?hb ?_); (case hb => first | with_reducible rfl | with_reducible assumption | (simp <;> omega) | omega)) | ((with_reducible refine c_f ?hb ?_); (case hb => first | with_reducible rfl | with_reducible assumption | (simp <;> omega) | omega)) | with_reducible (apply lc_put) | with_reducible (apply lc_skip)
end
theorem F_lund (b n : Int) (cs : List Int) : F__law_undone [.sh (il (rgI 41 fun i => ht b cs i)), .sh (.int n), .sh (.bl (decide (rise cs = 1)))] =
    some (.ok (.sh (oI (undoneL b cs n))) [some (.sh (il (rgI 41 fun i => ht b cs i))), some (.sh (.int n)), some (.sh (.bl (decide (rise cs = 1))))]) := by
  have hlc := lu_lc (fun i => ht b cs i) n (some (.sh (.bl (decide (rise cs = 1)))))
  have hl := leL_last (fun i => ht b cs i) n 41
  have hs := at_m1 (rgI_last (n := 40) (f := fun i => ht b cs i))
  have hg : gLen (il (rgI 41 fun i => ht b cs i)) = some (.sh (.int 41)) := by
    show some (Val.sh (.int (((rgI 41 fun i => ht b cs i).map D.int).length : Int))) = _
    rw [List.length_map, rgI_len]
    rfl
  have he : gEq (il (leL (fun i => ht b cs i) n 41)) (.lst []) = some (.sh (.bl (decide (leL (fun i => ht b cs i) n 41 = [])))) := by
    show (eqC _ (il [])).map _ = _
    rw [eqC_il]
    rfl
  unfold luE at hlc
  unfold undoneL F__law_undone
  generalize il (rgI 41 fun i => ht b cs i) = S at *
  cases h : lastN (fun i => ht b cs i) n 41 with
  | none =>
    rw [h] at hl
    have hn : leL (fun i => ht b cs i) n 41 = [] := List.getLast?_eq_none_iff.mp hl
    rw [hn] at hlc he
    simp only [iv, il, List.map_nil] at hlc he
    have he : gEq (.lst []) (.lst []) = some (.sh (.bl true)) := by
      show (eqC (il []) (il [])).map _ = _
      rw [eqC_il]
      rfl
    generalize decide (rise cs = 1) = R at *
    repeat first | with_reducible (first | exact hlc | exact he) | (refine Lf.mk ?_ <;> first | (simp only [sharE, immD, tupD, Option.map_none, Fi.dv, List.drop_nil, List.drop_zero, List.drop_succ_cons, prepAll, prep1, Val.top, Val.d, ds_sh, Val.ds, esc1, escAll, escS, argAll, pass1, arg1, backAll, back1, shAll, shOf, shAll_map, isOl, shList, itemsT, itemsL, gNm, gTp, gsCons, gsNil, wipeE, outF, List.getElem?_cons_zero, List.getElem?_cons_succ, List.getElem?_nil, List.set_cons_zero, List.set_cons_succ, List.headD_cons, List.headD_nil, List.tail_cons, List.tail_nil, List.length_cons, List.length_nil, List.map_cons, List.map_nil, List.replicate_zero, List.replicate_succ, List.cons_append, List.nil_append, List.append_nil, Nat.reduceAdd, Nat.reduceSub, Nat.reduceLT, Nat.reduceLeDiff, Nat.zero_add, Nat.add_zero, Nat.sub_self, Nat.zero_lt_succ, Nat.add_lt_add_iff_right, if_true, if_false, ite_true, ite_false, reduceIte, Bool.false_eq_true, Option.map_some, Option.bind_some, decide_true, decide_false, oI] <;> first | exact rfl | decide) | exact rfl | decide) | (refine Gp.mk ?_ <;> first | with_reducible (first | exact hlc | exact he) | (simp only [p1, p2, gAdd, Wp.gSub, gMul, gMod, gNeg, gCmp, cmpF, cLt, cLe, cGt, cGe, gEq, gNe, gIsN, gSub2, gIx, gLen, gMx2, gMn2, gInt, gBits, truthD, itemsX, itemsL, itemsT, shItems, shAll, shOf, shAll_map, Val.d, ds_sh, Val.ds, List.map_cons, List.map_nil, List.length_cons, List.length_nil, List.length_map, Option.map_some, Option.bind_some, Option.map_none, Option.bind_none, Bool.not_true, Bool.not_false, if_true, if_false, reduceIte, Bool.false_eq_true, numV, oI] <;> exact rfl) | exact rfl) | (refine Sz.mk ?_ <;> first | assumption | with_reducible (first | exact hlc | exact he) | (simp [sizeLine_eq]; done) | (simp [sizeLine_eq] <;> omega) | (simp [sizeLine_eq, small62] <;> omega)) | with_reducible (first | apply e_var | apply e_lit | apply e_f1 | apply e_f2 | apply e_fn | apply e_app1 | apply e_app2 | apply e_nil | apply e_cons | apply e_bl | apply e_tru | apply e_notT | apply e_andT | apply e_orT | apply e_andV | apply e_orV | apply e_notV | apply e_ite | apply e_disp | apply e_pt0 | apply e_pt1 | apply e_slice | apply e_lc | apply lc_nil | apply lc_cons | apply e_yes | apply e_seqI | apply e_enum | apply e_rng1 | apply e_rng2 | apply e_callD | apply e_call | apply e_make | apply e_meth | apply e_prop | apply e_attr | apply e_neO | apply e_eqO | apply e_par3 | apply e_seq | apply sq_n | apply sq_r | apply sq_b | apply sq_c | apply e_set | apply e_par | apply e_asg | apply e_expr | apply e_app | apply e_ret | apply e_retN | apply e_nxt | apply e_flw | apply e_if | apply e_for | apply lp_nil | apply lp_cons | apply lp_n | apply lp_c | apply lp_b | apply lp_r | apply e_setI | apply e_setF | apply e_retM | apply e_pure | apply e_pureT | apply e_eqN | apply e_eqTu | apply e_appT | apply e_sem | apply ok_ok) | ((with_reducible refine c_t ?hb ?_); (case hb => decide)) | ((with_reducible refine c_f ?hb ?_); (case hb => decide)) | ((with_reducible refine c_t ?hb ?_); (case hb => first | with_reducible rfl | with_reducible assumption | (simp [oI] <;> omega) | omega)) | ((with_reducible refine c_f ?hb ?_); (case hb => first | with_reducible rfl | with_reducible assumption | (simp [oI] <;> omega) | omega)) | with_reducible (apply lc_put) | with_reducible (apply lc_skip)
  | some k =>
    rw [h] at hl
    have hn : leL (fun i => ht b cs i) n 41 ≠ [] := fun z => by rw [z] at hl; cases hl
    have hk := at_m1 hl
    rw [decide_eq_false hn] at he
    simp only [iv, il] at hlc he hk
    generalize (leL (fun i => ht b cs i) n 41).map D.int = I at *
    by_cases h40 : k < 40
    · simp only [h40, if_true]
      generalize decide (rise cs = 1) = R at *
      repeat first | with_reducible (first | exact hlc | exact he | exact hg | exact hk) | (refine Lf.mk ?_ <;> first | (simp only [sharE, immD, tupD, Option.map_none, Fi.dv, List.drop_nil, List.drop_zero, List.drop_succ_cons, prepAll, prep1, Val.top, Val.d, ds_sh, Val.ds, esc1, escAll, escS, argAll, pass1, arg1, backAll, back1, shAll, shOf, shAll_map, isOl, shList, itemsT, itemsL, gNm, gTp, gsCons, gsNil, wipeE, outF, List.getElem?_cons_zero, List.getElem?_cons_succ, List.getElem?_nil, List.set_cons_zero, List.set_cons_succ, List.headD_cons, List.headD_nil, List.tail_cons, List.tail_nil, List.length_cons, List.length_nil, List.map_cons, List.map_nil, List.replicate_zero, List.replicate_succ, List.cons_append, List.nil_append, List.append_nil, Nat.reduceAdd, Nat.reduceSub, Nat.reduceLT, Nat.reduceLeDiff, Nat.zero_add, Nat.add_zero, Nat.sub_self, Nat.zero_lt_succ, Nat.add_lt_add_iff_right, if_true, if_false, ite_true, ite_false, reduceIte, Bool.false_eq_true, Option.map_some, Option.bind_some, decide_true, decide_false, oI] <;> first | exact rfl | decide) | exact rfl | decide) | (refine Gp.mk ?_ <;> first | with_reducible (first | exact hlc | exact he | exact hg | exact hk) | (simp only [p1, p2, gAdd, Wp.gSub, gMul, gMod, gNeg, gCmp, cmpF, cLt, cLe, cGt, cGe, gEq, gNe, gIsN, gSub2, gIx, gLen, gMx2, gMn2, gInt, gBits, truthD, itemsX, itemsL, itemsT, shItems, shAll, shOf, shAll_map, Val.d, ds_sh, Val.ds, List.map_cons, List.map_nil, List.length_cons, List.length_nil, List.length_map, Option.map_some, Option.bind_some, Option.map_none, Option.bind_none, Bool.not_true, Bool.not_false, if_true, if_false, reduceIte, Bool.false_eq_true, numV, oI] <;> exact rfl) | exact rfl) | (refine Sz.mk ?_ <;> first | assumption | with_reducible (first | exact hlc | exact he | exact hg | exact hk) | (simp [sizeLine_eq]; done) | (simp [sizeLine_eq] <;> omega) | (simp [sizeLine_eq, small62] <;> omega)) | with_reducible (first | apply e_var | apply e_lit | apply e_f1 | apply e_f2 | apply e_fn | apply e_app1 | apply e_app2 | apply e_nil | apply e_cons | apply e_bl | apply e_tru | apply e_notT | apply e_andT | apply e_orT | apply e_andV | apply e_orV | apply e_notV | apply e_ite | apply e_disp | apply e_pt0 | apply e_pt1 | apply e_slice | apply e_lc | apply lc_nil | apply lc_cons | apply e_yes | apply e_seqI | apply e_enum | apply e_rng1 | apply e_rng2 | apply e_callD | apply e_call | apply e_make | apply e_meth | apply e_prop | apply e_attr | apply e_neO | apply e_eqO | apply e_par3 | apply e_seq | apply sq_n | apply sq_r | apply sq_b | apply sq_c | apply e_set | apply e_par | apply e_asg | apply e_expr | apply e_app | apply e_ret | apply e_retN | apply e_nxt | apply e_flw | apply e_if | apply e_for | apply lp_nil | apply lp_cons | apply lp_n | apply lp_c | apply lp_b | apply lp_r | apply e_setI | apply e_setF | apply e_retM | apply e_pure | apply e_pureT | apply e_eqN | apply e_eqTu | apply e_appT | apply e_sem | apply ok_ok) | ((with_reducible refine c_t ?hb ?_); (case hb => decide)) | ((with_reducible refine c_f ?hb ?_); (case hb => decide)) | ((with_reducible refine c_t ?hb ?_); (case hb => first | with_reducible rfl | with_reducible assumption | (simp [oI] <;> omega) | omega)) | ((with_reducible refine c_f ?hb ?_); (case hb => first | with_reducible rfl | with_reducible assumption | (simp [oI] <;> omega) | omega)) | with_reducible (apply lc_put) | with_reducible (apply lc_skip)
    · by_cases hr : rise cs = 1
      · simp only [h40, if_false, hr, if_true]
        rw [decide_eq_true hr] at hlc
        rw [decide_true]
        repeat first | with_reducible (first | exact hlc | exact he | exact hg | exact hk | exact hs) | (refine Lf.mk ?_ <;> first | (simp only [sharE, immD, tupD, Option.map_none, Fi.dv, List.drop_nil, List.drop_zero, List.drop_succ_cons, prepAll, prep1, Val.top, Val.d, ds_sh, Val.ds, esc1, escAll, escS, argAll, pass1, arg1, backAll, back1, shAll, shOf, shAll_map, isOl, shList, itemsT, itemsL, gNm, gTp, gsCons, gsNil, wipeE, outF, List.getElem?_cons_zero, List.getElem?_cons_succ, List.getElem?_nil, List.set_cons_zero, List.set_cons_succ, List.headD_cons, List.headD_nil, List.tail_cons, List.tail_nil, List.length_cons, List.length_nil, List.map_cons, List.map_nil, List.replicate_zero, List.replicate_succ, List.cons_append, List.nil_append, List.append_nil, Nat.reduceAdd, Nat.reduceSub, Nat.reduceLT, Nat.reduceLeDiff, Nat.zero_add, Nat.add_zero, Nat.sub_self, Nat.zero_lt_succ, Nat.add_lt_add_iff_right, if_true, if_false, ite_true, ite_false, reduceIte, Bool.false_eq_true, Option.map_some, Option.bind_some, decide_true, decide_false, oI] <;> first | exact rfl | decide) | exact rfl | decide) | (refine Gp.mk ?_ <;> first | with_reducible (first | exact hlc | exact he | exact hg | exact hk | exact hs) | (simp only [p1, p2, gAdd, Wp.gSub, gMul, gMod, gNeg, gCmp, cmpF, cLt, cLe, cGt, cGe, gEq, gNe, gIsN, gSub2, gIx, gLen, gMx2, gMn2, gInt, gBits, truthD, itemsX, itemsL, itemsT, shItems, shAll, shOf, shAll_map, Val.d, ds_sh, Val.ds, List.map_cons, List.map_nil, List.length_cons, List.length_nil, List.length_map, Option.map_some, Option.bind_some, Option.map_none, Option.bind_none, Bool.not_true, Bool.not_false, if_true, if_false, reduceIte, Bool.false_eq_true, numV, oI] <;> exact rfl) | exact rfl) | (refine Sz.mk ?_ <;> first | assumption | with_reducible (first | exact hlc | exact he | exact hg | exact hk | exact hs) | (simp [sizeLine_eq]; done) | (simp [sizeLine_eq] <;> omega) | (simp [sizeLine_eq, small62] <;> omega)) | with_reducible (first | apply e_var | apply e_lit | apply e_f1 | apply e_f2 | apply e_fn | apply e_app1 | apply e_app2 | apply e_nil | apply e_cons | apply e_bl | apply e_tru | apply e_notT | apply e_andT | apply e_orT | apply e_andV | apply e_orV | apply e_notV | apply e_ite | apply e_disp | apply e_pt0 | apply e_pt1 | apply e_slice | apply e_lc | apply lc_nil | apply lc_cons | apply e_yes | apply e_seqI | apply e_enum | apply e_rng1 | apply e_rng2 | apply e_callD | apply e_call | apply e_make | apply e_meth | apply e_prop | apply e_attr | apply e_neO | apply e_eqO | apply e_par3 | apply e_seq | apply sq_n | apply sq_r | apply sq_b | apply sq_c | apply e_set | apply e_par | apply e_asg | apply e_expr | apply e_app | apply e_ret | apply e_retN | apply e_nxt | apply e_flw | apply e_if | apply e_for | apply lp_nil | apply lp_cons | apply lp_n | apply lp_c | apply lp_b | apply lp_r | apply e_setI | apply e_setF | apply e_retM | apply e_pure | apply e_pureT | apply e_eqN | apply e_eqTu | apply e_appT | apply e_sem | apply ok_ok) | ((with_reducible refine c_t ?hb ?_); (case hb => decide)) | ((with_reducible refine c_f ?hb ?_); (case hb => decide)) | ((with_reducible refine c_t ?hb ?_); (case hb => first | with_reducible rfl | with_reducible assumption | (simp [oI] <;> omega) | omega)) | ((with_reducible refine c_f ?hb ?_); (case hb => first | with_reducible rfl | with_reducible assumption | (simp [oI] <;> omega) | omega)) | with_reducible (apply lc_put) | with_reducible (apply lc_skip)
      · simp only [h40, if_false, hr]
        rw [decide_eq_false hr] at hlc
        rw [decide_false]
        repeat first | with_reducible (first | exact hlc | exact he | exact hg | exact hk | exact hs) | (refine Lf.mk ?_ <;> first | (simp only [sharE, immD, tupD, Option.map_none, Fi.dv, List.drop_nil, List.drop_zero, List.drop_succ_cons, prepAll, prep1, Val.top, Val.d, ds_sh, Val.ds, esc1, escAll, escS, argAll, pass1, arg1, backAll, back1, shAll, shOf, shAll_map, isOl, shList, itemsT, itemsL, gNm, gTp, gsCons, gsNil, wipeE, outF, List.getElem?_cons_zero, List.getElem?_cons_succ, List.getElem?_nil, List.set_cons_zero, List.set_cons_succ, List.headD_cons, List.headD_nil, List.tail_cons, List.tail_nil, List.length_cons, List.length_nil, List.map_cons, List.map_nil, List.replicate_zero, List.replicate_succ, List.cons_append, List.nil_append, List.append_nil, Nat.reduceAdd, Nat.reduceSub, Nat.reduceLT, Nat.reduceLeDiff, Nat.zero_add, Nat.add_zero, Nat.sub_self, Nat.zero_lt_succ, Nat.add_lt_add_iff_right, if_true, if_false, ite_true, ite_false, reduceIte, Bool.false_eq_true, Option.map_some, Option.bind_some, decide_true, decide_false, oI] <;> first | exact rfl | decide) | exact rfl | decide) | (refine Gp.mk ?_ <;> first | with_reducible (first | exact hlc | exact he | exact hg | exact hk | exact hs) | (simp only [p1, p2, gAdd, Wp.gSub, gMul, gMod, gNeg, gCmp, cmpF, cLt, cLe, cGt, cGe, gEq, gNe, gIsN, gSub2, gIx, gLen, gMx2, gMn2, gInt, gBits, truthD, itemsX, itemsL, itemsT, shItems, shAll, shOf, shAll_map, Val.d, ds_sh, Val.ds, List.map_cons, List.map_nil, List.length_cons, List.length_nil, List.length_map, Option.map_some, Option.bind_some, Option.map_none, Option.bind_none, Bool.not_true, Bool.not_false, if_true, if_false, reduceIte, Bool.false_eq_true, numV, oI] <;> exact rfl) | exact rfl) | (refine Sz.mk ?_ <;> first | assumption | with_reducible (first | exact hlc | exact he | exact hg | exact hk | exact hs) | (simp [sizeLine_eq]; done) | (simp [sizeLine_eq] <;> omega) | (simp [sizeLine_eq, small62] <;> omega)) | with_reducible (first | apply e_var | apply e_lit | apply e_f1 | apply e_f2 | apply e_fn | apply e_app1 | apply e_app2 | apply e_nil | apply e_cons | apply e_bl | apply e_tru | apply e_notT | apply e_andT | apply e_orT | apply e_andV | apply e_orV | apply e_notV | apply e_ite | apply e_disp | apply e_pt0 | apply e_pt1 | apply e_slice | apply e_lc | apply lc_nil | apply lc_cons | apply e_yes | apply e_seqI | apply e_enum | apply e_rng1 | apply e_rng2 | apply e_callD | apply e_call | apply e_make | apply e_meth | apply e_prop | apply e_attr | apply e_neO | apply e_eqO | apply e_par3 | apply e_seq | apply sq_n | apply sq_r | apply sq_b | apply sq_c | apply e_set | apply e_par | apply e_asg | apply e_expr | apply e_app | apply e_ret | apply e_retN | apply e_nxt | apply e_flw | apply e_if | apply e_for | apply lp_nil | apply lp_cons | apply lp_n | apply lp_c | apply lp_b | apply lp_r | apply e_setI | apply e_setF | apply e_retM | apply e_pure | apply e_pureT | apply e_eqN | apply e_eqTu | apply e_appT | apply e_sem | apply ok_ok) | ((with_reducible refine c_t ?hb ?_); (case hb => decide)) | ((with_reducible refine c_f ?hb ?_); (case hb => decide)) | ((with_reducible refine c_t ?hb ?_); (case hb => first | with_reducible rfl | with_reducible assumption | (simp [oI] <;> omega) | omega)) | ((with_reducible refine c_f ?hb ?_); (case hb => first | with_reducible rfl | with_reducible assumption | (simp [oI] <;> omega) | omega)) | with_reducible (apply lc_put) | with_reducible (apply lc_skip)
end L43
end
section
set_option Elab.async false
set_option linter.all false
set_option maxRecDepth 100000
set_option maxHeartbeats 1000000
namespace L43
open PySem PySem.Spec PyProof.Rows L2 Wp
/-! R14: the law's steps -/
theorem steps_lc (x0 x2 x3 : Option Val) (cs : List Int) (k : Nat) (hcs : cs.length < 900) : fLc 6 [5] (fSeqI (fVar 1)) (gNm 5) (fBl (f2 (fVar 5) (fVar 4) (p2 (gCmp (cmpF .LtE))))) (fVar 5) [x0, some (.sh (il cs)), x2, x3, some (.sh (.int k)), none] =
    some (.ok (.pend (iv (cs.filter fun c => decide (c ≤ (k : Int))))) [x0, some (.sh (il cs)), x2, x3, some (.sh (.int k)), none]) := by
  have hi : fSeqI (fVar 1) [x0, some (.sh (il cs)), x2, x3, some (.sh (.int k)), none] = some (.ok ((cs.map D.int).map .sh) [x0, some (.sh (il cs)), x2, x3, some (.sh (.int k)), none]) := rfl
  refine e_lc hi ⟨rfl⟩ ⟨rfl⟩ ?_
  have hf : (((cs.map D.int).map Val.sh).filter (leV k)) = ((cs.filter fun c => decide (c ≤ (k : Int))).map D.int).map Val.sh := by
    rw [List.map_map, List.filter_map, List.map_map]
    rfl
  rw [loopC_pure (leV k) id]
  · rw [hf, List.map_id, List.nil_append]
    rfl
  · rw [sizeLine_eq]
    simp
    omega
  · intro y hy
    obtain ⟨c, rfl⟩ : ∃ c, y = .sh (.int c) := by
      simp only [List.map_map, List.mem_map, Function.comp_apply] at hy
      obtain ⟨c, _, rfl⟩ := hy
      exact ⟨c, rfl⟩
    exact ⟨[x0, some (.sh (il cs)), x2, x3, some (.sh (.int k)), some (.sh (.int c))], rfl, rfl, [x0, some (.sh (il cs)), x2, x3, some (.sh (.int k)), some (.sh (.int c))], rfl, fun _ => ⟨.slot 5, _, _, rfl, rfl, rfl⟩, fun _ => rfl⟩
abbrev stB : FS := (fExpr (fApp 3 (fPure (f2 (f2 (fVar 3) (f1 (fLit (.int 1)) (p1 gNeg)) (p2 gSub2)) (f2 (fn (fCons (fLc 6 [5] (fSeqI (fVar 1)) (gNm 5) (fBl (f2 (fVar 5) (fVar 4) (p2 (gCmp (cmpF .LtE))))) (fVar 5)) fNil) (p1 gLen)) (fLit (.int 2)) (p2 gMod)) (p2 gAdd)))))
theorem steps_body (b : Int) (cs : List Int) (hi : cs.Pairwise (· < ·)) (hcs : cs.length < 900) (k : Nat) (hk : k < 900) (x2 : Val) : stB [some (.sh (.int b)), some (iv cs), some x2, some (iv (rgI (k + 1) fun i => ht b cs i)), some (.sh (.int k)), none] =
    some (.ok .next [some (.sh (.int b)), some (iv cs), some x2, some (iv (rgI (k + 2) fun i => ht b cs i)), some (.sh (.int k)), none]) := by
  have hl := steps_lc (some (.sh (.int b))) (some (.sh x2.d)) (some (.sh (il (rgI (k + 1) fun i => ht b cs i)))) cs k hcs
  have ha := at_m1 (rgI_last (n := k) (f := fun i => ht b cs i))
  have hm : gMod (.int ((cs.filter fun c => decide (c ≤ (k : Int))).length : Int)) (.int 2) = some (.sh (.int (sl cs k))) := by
    simp only [gMod]
    rw [if_neg (by decide)]
    rfl
  have hg : gLen (il (cs.filter fun c => decide (c ≤ (k : Int)))) = some (.sh (.int ((cs.filter fun c => decide (c ≤ (k : Int))).length : Int))) := by
    show some (Val.sh (.int ((((cs.filter fun c => decide (c ≤ (k : Int))).map D.int).length : Nat) : Int))) = _
    rw [List.length_map]
  have hn : ht b cs k + sl cs k = ht b cs ((k + 1 : Nat) : Int) := (ht_step cs b k hi).symm
  have hsz : ((rgI (k + 1) fun i => ht b cs i).map D.int).length < sizeLine := by rw [List.length_map, rgI_len, sizeLine_eq]; omega
  have hsn : ((rgI (k + 1) fun i => ht b cs i).map D.int).map Val.sh ++ [Val.sh (.int (ht b cs ((k + 1 : Nat) : Int)))] = ((rgI (k + 2) fun i => ht b cs i).map D.int).map Val.sh := by
    rw [← rgI_snoc (n := k + 1)]
    simp
  have hsz2 : (((rgI (k + 1) fun i => ht b cs i).map D.int).map Val.sh).length < sizeLine := by rw [List.length_map]; exact hsz
  simp only [iv, il] at *
  generalize (rgI (k + 2) fun i => ht b cs i).map D.int = I2 at *
  generalize (rgI (k + 1) fun i => ht b cs i).map D.int = I1 at *
  generalize (cs.filter fun c => decide (c ≤ (k : Int))).map D.int = I3 at *
  generalize ((cs.filter fun c => decide (c ≤ (k : Int))).length : Int) = L at *
  generalize cs.map D.int = C at *
  generalize ht b cs ((k + 1 : Nat) : Int) = q at *
  generalize ht b cs (k : Int) = p at *
  generalize sl cs (k : Int) = s at *
  repeat first | with_reducible (first | exact hl | exact ha | exact hm | exact hg) | (refine Lf.mk ?_ <;> first | (simp only [sharE, immD, tupD, Option.map_none, Fi.dv, List.drop_nil, List.drop_zero, List.drop_succ_cons, prepAll, prep1, Val.top, Val.d, ds_sh, Val.ds, esc1, escAll, escS, argAll, pass1, arg1, backAll, back1, shAll, shOf, shAll_map, isOl, shList, itemsT, itemsL, gNm, gTp, gsCons, gsNil, wipeE, outF, List.getElem?_cons_zero, List.getElem?_cons_succ, List.getElem?_nil, List.set_cons_zero, List.set_cons_succ, List.headD_cons, List.headD_nil, List.tail_cons, List.tail_nil, List.length_cons, List.length_nil, List.map_cons, List.map_nil, List.replicate_zero, List.replicate_succ, List.cons_append, List.nil_append, List.append_nil, Nat.reduceAdd, Nat.reduceSub, Nat.reduceLT, Nat.reduceLeDiff, Nat.zero_add, Nat.add_zero, Nat.sub_self, Nat.zero_lt_succ, Nat.add_lt_add_iff_right, if_true, if_false, ite_true, ite_false, reduceIte, Bool.false_eq_true, Option.map_some, Option.bind_some, decide_true, decide_false, hn, hsn] <;> first | exact rfl | decide) | exact rfl | decide) | (refine Gp.mk ?_ <;> first | with_reducible (first | exact hl | exact ha | exact hm | exact hg) | (simp only [p1, p2, gAdd, Wp.gSub, gMul, gMod, gNeg, gCmp, cmpF, cLt, cLe, cGt, cGe, gEq, gNe, gIsN, gSub2, gIx, gLen, gMx2, gMn2, gInt, gBits, truthD, itemsX, itemsL, itemsT, shItems, shAll, shOf, shAll_map, Val.d, ds_sh, Val.ds, List.map_cons, List.map_nil, List.length_cons, List.length_nil, List.length_map, Option.map_some, Option.bind_some, Option.map_none, Option.bind_none, Bool.not_true, Bool.not_false, if_true, if_false, reduceIte, Bool.false_eq_true, numV, hn, hsn] <;> exact rfl) | exact rfl) | (refine Sz.mk ?_ <;> first | assumption | with_reducible (first | exact hl | exact ha | exact hm | exact hg) | (simp [sizeLine_eq]; done) | (simp [sizeLine_eq] <;> omega) | (simp [sizeLine_eq, small62] <;> omega)) | with_reducible (first | apply e_var | apply e_lit | apply e_f1 | apply e_f2 | apply e_fn | apply e_app1 | apply e_app2 | apply e_nil | apply e_cons | apply e_bl | apply e_tru | apply e_notT | apply e_andT | apply e_orT | apply e_andV | apply e_orV | apply e_notV | apply e_ite | apply e_disp | apply e_pt0 | apply e_pt1 | apply e_slice | apply e_lc | apply lc_nil | apply lc_cons | apply e_yes | apply e_seqI | apply e_enum | apply e_rng1 | apply e_rng2 | apply e_callD | apply e_call | apply e_make | apply e_meth | apply e_prop | apply e_attr | apply e_neO | apply e_eqO | apply e_par3 | apply e_seq | apply sq_n | apply sq_r | apply sq_b | apply sq_c | apply e_set | apply e_par | apply e_asg | apply e_expr | apply e_app | apply e_ret | apply e_retN | apply e_nxt | apply e_flw | apply e_if | apply e_for | apply lp_nil | apply lp_cons | apply lp_n | apply lp_c | apply lp_b | apply lp_r | apply e_setI | apply e_setF | apply e_retM | apply e_pure | apply e_pureT | apply e_eqN | apply e_eqTu | apply e_appT | apply e_sem | apply ok_ok) | ((with_reducible refine c_t ?hb ?_); (case hb => decide)) | ((with_reducible refine c_f ?hb ?_); (case hb => decide)) | ((with_reducible refine c_t ?hb ?_); (case hb => first | with_reducible rfl | with_reducible assumption | (simp [hn, hsn] <;> omega) | omega)) | ((with_reducible refine c_f ?hb ?_); (case hb => first | with_reducible rfl | with_reducible assumption | (simp [hn, hsn] <;> omega) | omega)) | with_reducible (apply lc_put) | with_reducible (apply lc_skip)
theorem rngV_succ (k m : Nat) : rngV (k : Int) (m + 1) = .sh (.int k) :: rngV ((k + 1 : Nat) : Int) m := by
  unfold rngV
  rw [List.range_succ_eq_map, List.map_cons, List.map_map]
  have e : ∀ i : Nat, ((fun i : Nat => Val.sh (.int ((k : Int) + i))) ∘ Nat.succ) i = Val.sh (.int (((k + 1 : Nat) : Int) + i)) := fun i => by
    show Val.sh (.int ((k : Int) + ((i + 1 : Nat) : Int))) = _
    rw [show (k : Int) + ((i + 1 : Nat) : Int) = ((k + 1 : Nat) : Int) + i by omega]
  rw [List.map_congr_left fun i _ => e i]
  simp
theorem steps_loop (b : Int) (cs : List Int) (hi : cs.Pairwise (· < ·)) (hcs : cs.length < 900) (x2 : Val) : ∀ (m k : Nat) (x4 : Option Val), k + m < 900 → ∃ y4, loopF (gNm 4) stB (rngV k m) [some (.sh (.int b)), some (iv cs), some x2, some (iv (rgI (k + 1) fun i => ht b cs i)), x4, none] =
    some (.ok .next [some (.sh (.int b)), some (iv cs), some x2, some (iv (rgI (k + m + 1) fun i => ht b cs i)), y4, none])
  | 0, k, x4, _ => ⟨x4, rfl⟩
  | m + 1, k, x4, hk => by
    obtain ⟨y4, ih⟩ := steps_loop b cs hi hcs x2 m (k + 1) (some (.sh (.int k))) (by omega)
    refine ⟨y4, ?_⟩
    rw [rngV_succ]
    refine lp_cons (w := .next) ⟨rfl⟩ (steps_body b cs hi hcs k (by omega) x2) ?_
    rw [show k + (m + 1) + 1 = k + 1 + m + 1 by omega]
    exact lp_n ih
theorem F_steps (b : Int) (cs : List Int) (hi : Inc cs) (hcs : cs.length < 900) : F__law_steps [.sh (.int b), iv cs, .sh (.int 40)] = some (.ok (.sh (il (rgI 41 fun i => ht b cs i))) [some (.sh (.int b)), some (iv cs), some (.sh (.int 40))]) := by
  obtain ⟨y4, hl⟩ := steps_loop b cs hi.1 hcs (.sh (.int 40)) 40 0 none (by omega)
  have h0 : iv (rgI (0 + 1) fun i => ht b cs i) = .ol [.sh (.int b)] := by
    show Val.ol [.sh (.int (ht b cs ((0 : Nat) : Int)))] = _
    rw [show ((0 : Nat) : Int) = 0 from rfl, ht_zero hi]
  rw [h0] at hl
  have hr : rngV ((0 : Nat) : Int) 40 = rngV 0 (40 : Int).toNat := rfl
  rw [hr, show 0 + 40 + 1 = 41 from rfl] at hl
  unfold F__law_steps
  simp only [iv, il] at *
  generalize (rgI 41 fun i => ht b cs i).map D.int = I at *
  generalize cs.map D.int = C at *
  repeat first | with_reducible (first | exact hl) | (refine Lf.mk ?_ <;> first | (simp only [sharE, immD, tupD, Option.map_none, Fi.dv, List.drop_nil, List.drop_zero, List.drop_succ_cons, prepAll, prep1, Val.top, Val.d, ds_sh, Val.ds, esc1, escAll, escS, argAll, pass1, arg1, backAll, back1, shAll, shOf, shAll_map, isOl, shList, itemsT, itemsL, gNm, gTp, gsCons, gsNil, wipeE, outF, List.getElem?_cons_zero, List.getElem?_cons_succ, List.getElem?_nil, List.set_cons_zero, List.set_cons_succ, List.headD_cons, List.headD_nil, List.tail_cons, List.tail_nil, List.length_cons, List.length_nil, List.map_cons, List.map_nil, List.replicate_zero, List.replicate_succ, List.cons_append, List.nil_append, List.append_nil, Nat.reduceAdd, Nat.reduceSub, Nat.reduceLT, Nat.reduceLeDiff, Nat.zero_add, Nat.add_zero, Nat.sub_self, Nat.zero_lt_succ, Nat.add_lt_add_iff_right, if_true, if_false, ite_true, ite_false, reduceIte, Bool.false_eq_true, Option.map_some, Option.bind_some, decide_true, decide_false] <;> first | exact rfl | decide) | exact rfl | decide) | (refine Gp.mk ?_ <;> first | with_reducible (first | exact hl) | (simp only [p1, p2, gAdd, Wp.gSub, gMul, gMod, gNeg, gCmp, cmpF, cLt, cLe, cGt, cGe, gEq, gNe, gIsN, gSub2, gIx, gLen, gMx2, gMn2, gInt, gBits, truthD, itemsX, itemsL, itemsT, shItems, shAll, shOf, shAll_map, Val.d, ds_sh, Val.ds, List.map_cons, List.map_nil, List.length_cons, List.length_nil, List.length_map, Option.map_some, Option.bind_some, Option.map_none, Option.bind_none, Bool.not_true, Bool.not_false, if_true, if_false, reduceIte, Bool.false_eq_true, numV] <;> exact rfl) | exact rfl) | (refine Sz.mk ?_ <;> first | assumption | with_reducible (first | exact hl) | (simp [sizeLine_eq]; done) | (simp [sizeLine_eq] <;> omega) | (simp [sizeLine_eq, small62] <;> omega)) | with_reducible (first | apply e_var | apply e_lit | apply e_f1 | apply e_f2 | apply e_fn | apply e_app1 | apply e_app2 | apply e_nil | apply e_cons | apply e_bl | apply e_tru | apply e_notT | apply e_andT | apply e_orT | apply e_andV | apply e_orV | apply e_notV | apply e_ite | apply e_disp | apply e_pt0 | apply e_pt1 | apply e_slice | apply e_lc | apply lc_nil | apply lc_cons | apply e_yes | apply e_seqI | apply e_enum | apply e_rng1 | apply e_rng2 | apply e_callD | apply e_call | apply e_make | apply e_meth | apply e_prop | apply e_attr | apply e_neO | apply e_eqO | apply e_par3 | apply e_seq | apply sq_n | apply sq_r | apply sq_b | apply sq_c | apply e_set | apply e_par | apply e_asg | apply e_expr | apply e_app | apply e_ret | apply e_retN | apply e_nxt | apply e_flw | apply e_if | apply e_for | apply lp_nil | apply lp_cons | apply lp_n | apply lp_c | apply lp_b | apply lp_r | apply e_setI | apply e_setF | apply e_retM | apply e_pure | apply e_pureT | apply e_eqN | apply e_eqTu | apply e_appT | apply e_sem | apply ok_ok) | ((with_reducible refine c_t ?hb ?_); (case hb => decide)) | ((with_reducible refine c_f ?hb ?_); (case hb => decide)) | ((with_reducible refine c_t ?hb ?_); (case hb => first | with_reducible rfl | with_reducible assumption | (simp <;> omega) | omega)) | ((with_reducible refine c_f ?hb ?_); (case hb => first | with_reducible rfl | with_reducible assumption | (simp <;> omega) | omega)) | with_reducible (apply lc_put) | with_reducible (apply lc_skip)
end L43
end
section
set_option Elab.async false
set_option linter.all false
set_option maxRecDepth 100000
set_option maxHeartbeats 1000000
namespace L43
open PySem PySem.Spec PyProof.Rows L2 Wp
/-! R15: the end; near stairs -/
theorem add_tu (xs c : List Int) (h : xs.length + c.length < 2000) : gAdd (.lst (xs.map D.int)) (.lst (c.map D.int)) = some (.ol (((xs ++ c).map D.int).map .sh)) := by
  simp only [gAdd]
  rw [if_pos (by rw [sizeLine_eq]; simp; omega)]
  simp only [List.map_append]
theorem len_t (cs : List Int) : gLen (.tup (cs.map D.int)) = some (.sh (.int cs.length)) := by
  show some (Val.sh (.int ((cs.map D.int).length : Int))) = _
  rw [List.length_map]
theorem mod2 (cs : List Int) : gMod (.int cs.length) (.int 2) = some (.sh (.int (rise cs))) := by
  simp only [gMod]
  rw [if_neg (by decide)]
  rfl
theorem eq_int (i j : Int) : gEq (.int i) (.int j) = some (.sh (.bl (decide (i = j)))) := by
  show (eqC (.int i) (.int j)).map _ = _
  rw [eqC_int]
  rfl
theorem F_end1 (b : Int) (cs : List Int) (hr : rise cs = 1) : F_Stair_end [.sh (stD b cs)] = some (.ok (.sh .non) [some (.sh (stD b cs))]) := by
  have h1 := len_t cs
  have h2 := mod2 cs
  have h3 := eq_int (rise cs) 1
  rw [decide_eq_true hr] at h3
  have t1 : fAttr fc_turns pt_turns "turns" (fVar 0) [some (.sh (stD b cs))] = _ := at_turns (b := b) (cs := cs) rfl
  unfold F_Stair_end
  repeat first | with_reducible (first | exact t1 | exact h1 | exact h2 | exact h3) | (refine Lf.mk ?_ <;> first | (simp only [sharE, immD, tupD, Option.map_none, Fi.dv, List.drop_nil, List.drop_zero, List.drop_succ_cons, prepAll, prep1, Val.top, Val.d, ds_sh, Val.ds, esc1, escAll, escS, argAll, pass1, arg1, backAll, back1, shAll, shOf, shAll_map, isOl, shList, itemsT, itemsL, gNm, gTp, gsCons, gsNil, wipeE, outF, List.getElem?_cons_zero, List.getElem?_cons_succ, List.getElem?_nil, List.set_cons_zero, List.set_cons_succ, List.headD_cons, List.headD_nil, List.tail_cons, List.tail_nil, List.length_cons, List.length_nil, List.map_cons, List.map_nil, List.replicate_zero, List.replicate_succ, List.cons_append, List.nil_append, List.append_nil, Nat.reduceAdd, Nat.reduceSub, Nat.reduceLT, Nat.reduceLeDiff, Nat.zero_add, Nat.add_zero, Nat.sub_self, Nat.zero_lt_succ, Nat.add_lt_add_iff_right, if_true, if_false, ite_true, ite_false, reduceIte, Bool.false_eq_true, Option.map_some, Option.bind_some, decide_true, decide_false] <;> first | exact rfl | decide) | exact rfl | decide) | (refine Gp.mk ?_ <;> first | with_reducible (first | exact t1 | exact h1 | exact h2 | exact h3) | (simp only [p1, p2, gAdd, Wp.gSub, gMul, gMod, gNeg, gCmp, cmpF, cLt, cLe, cGt, cGe, gEq, gNe, gIsN, gSub2, gIx, gLen, gMx2, gMn2, gInt, gBits, truthD, itemsX, itemsL, itemsT, shItems, shAll, shOf, shAll_map, Val.d, ds_sh, Val.ds, List.map_cons, List.map_nil, List.length_cons, List.length_nil, List.length_map, Option.map_some, Option.bind_some, Option.map_none, Option.bind_none, Bool.not_true, Bool.not_false, if_true, if_false, reduceIte, Bool.false_eq_true, numV] <;> exact rfl) | exact rfl) | (refine Sz.mk ?_ <;> first | assumption | with_reducible (first | exact t1 | exact h1 | exact h2 | exact h3) | (simp [sizeLine_eq]; done) | (simp [sizeLine_eq] <;> omega) | (simp [sizeLine_eq, small62] <;> omega)) | with_reducible (first | apply e_var | apply e_lit | apply e_f1 | apply e_f2 | apply e_fn | apply e_app1 | apply e_app2 | apply e_nil | apply e_cons | apply e_bl | apply e_tru | apply e_notT | apply e_andT | apply e_orT | apply e_andV | apply e_orV | apply e_notV | apply e_ite | apply e_disp | apply e_pt0 | apply e_pt1 | apply e_slice | apply e_lc | apply lc_nil | apply lc_cons | apply e_yes | apply e_seqI | apply e_enum | apply e_rng1 | apply e_rng2 | apply e_callD | apply e_call | apply e_make | apply e_meth | apply e_prop | apply e_attr | apply e_neO | apply e_eqO | apply e_par3 | apply e_seq | apply sq_n | apply sq_r | apply sq_b | apply sq_c | apply e_set | apply e_par | apply e_asg | apply e_expr | apply e_app | apply e_ret | apply e_retN | apply e_nxt | apply e_flw | apply e_if | apply e_for | apply lp_nil | apply lp_cons | apply lp_n | apply lp_c | apply lp_b | apply lp_r | apply e_setI | apply e_setF | apply e_retM | apply e_pure | apply e_pureT | apply e_eqN | apply e_eqTu | apply e_appT | apply e_sem | apply ok_ok) | ((with_reducible refine c_t ?hb ?_); (case hb => decide)) | ((with_reducible refine c_f ?hb ?_); (case hb => decide)) | ((with_reducible refine c_t ?hb ?_); (case hb => first | with_reducible rfl | with_reducible assumption | (simp <;> omega) | omega)) | ((with_reducible refine c_f ?hb ?_); (case hb => first | with_reducible rfl | with_reducible assumption | (simp <;> omega) | omega)) | with_reducible (apply lc_put) | with_reducible (apply lc_skip)
theorem F_end0 (b : Int) (cs : List Int) (hi : Inc cs) (hz : cs.length < 900) (hr : rise cs = 0) (M : Int) (hM : ∀ x ∈ cs, x ≤ M) (h0 : 0 ≤ M) : F_Stair_end [.sh (stD b cs)] = some (.ok (.sh (.int (ht b cs M))) [some (.sh (stD b cs))]) := by
  obtain ⟨m, hm⟩ : ∃ m, maxI (0 :: cs) = some m := ⟨_, rfl⟩
  obtain ⟨m1, m2⟩ := maxI_spec.mp hm
  have hmM : m ≤ M := by
    rcases List.mem_cons.mp m1 with rfl | z
    · exact h0
    · exact hM m z
  have he : ht b cs M = ht b cs m := by
    have := ht_end hi.1 b (m := m) (fun x hx => m2 x (by simp [hx])) M hmM
    rw [hr] at this
    omega
  rw [he]
  have h1 := len_t cs
  have h2 := mod2 cs
  have h3 := eq_int (rise cs) 1
  rw [decide_eq_false (by omega)] at h3
  have t1 : fAttr fc_turns pt_turns "turns" (fVar 0) [some (.sh (stD b cs))] = _ := at_turns (b := b) (cs := cs) rfl
  have g1 : gList (.tup (cs.map D.int)) = some (.ol ((cs.map D.int).map .sh)) := rfl
  have g2 := add_tu [0] cs (by simp; omega)
  have g3 : gMxL (.lst ((0 :: cs).map D.int)) = some (.sh (.int m)) := by
    simp only [gMxL, intsOf_map, Option.bind_some, hm, Option.map_some]
  have g4 := F_height b cs m hz
  simp only [List.map_cons, List.map_nil, List.cons_append, List.nil_append] at g2 g3
  unfold F_Stair_end
  generalize cs.map D.int = I at *
  repeat first | with_reducible (first | exact t1 | exact h1 | exact h2 | exact h3 | exact g1 | exact g2 | exact g3 | exact g4) | (refine Lf.mk ?_ <;> first | (simp only [sharE, immD, tupD, Option.map_none, Fi.dv, List.drop_nil, List.drop_zero, List.drop_succ_cons, prepAll, prep1, Val.top, Val.d, ds_sh, Val.ds, esc1, escAll, escS, argAll, pass1, arg1, backAll, back1, shAll, shOf, shAll_map, isOl, shList, itemsT, itemsL, gNm, gTp, gsCons, gsNil, wipeE, outF, List.getElem?_cons_zero, List.getElem?_cons_succ, List.getElem?_nil, List.set_cons_zero, List.set_cons_succ, List.headD_cons, List.headD_nil, List.tail_cons, List.tail_nil, List.length_cons, List.length_nil, List.map_cons, List.map_nil, List.replicate_zero, List.replicate_succ, List.cons_append, List.nil_append, List.append_nil, Nat.reduceAdd, Nat.reduceSub, Nat.reduceLT, Nat.reduceLeDiff, Nat.zero_add, Nat.add_zero, Nat.sub_self, Nat.zero_lt_succ, Nat.add_lt_add_iff_right, if_true, if_false, ite_true, ite_false, reduceIte, Bool.false_eq_true, Option.map_some, Option.bind_some, decide_true, decide_false] <;> first | exact rfl | decide) | exact rfl | decide) | (refine Gp.mk ?_ <;> first | with_reducible (first | exact t1 | exact h1 | exact h2 | exact h3 | exact g1 | exact g2 | exact g3 | exact g4) | (simp only [p1, p2, gAdd, Wp.gSub, gMul, gMod, gNeg, gCmp, cmpF, cLt, cLe, cGt, cGe, gEq, gNe, gIsN, gSub2, gIx, gLen, gMx2, gMn2, gInt, gBits, truthD, itemsX, itemsL, itemsT, shItems, shAll, shOf, shAll_map, Val.d, ds_sh, Val.ds, List.map_cons, List.map_nil, List.length_cons, List.length_nil, List.length_map, Option.map_some, Option.bind_some, Option.map_none, Option.bind_none, Bool.not_true, Bool.not_false, if_true, if_false, reduceIte, Bool.false_eq_true, numV] <;> exact rfl) | exact rfl) | (refine Sz.mk ?_ <;> first | assumption | with_reducible (first | exact t1 | exact h1 | exact h2 | exact h3 | exact g1 | exact g2 | exact g3 | exact g4) | (simp [sizeLine_eq]; done) | (simp [sizeLine_eq] <;> omega) | (simp [sizeLine_eq, small62] <;> omega)) | with_reducible (first | apply e_var | apply e_lit | apply e_f1 | apply e_f2 | apply e_fn | apply e_app1 | apply e_app2 | apply e_nil | apply e_cons | apply e_bl | apply e_tru | apply e_notT | apply e_andT | apply e_orT | apply e_andV | apply e_orV | apply e_notV | apply e_ite | apply e_disp | apply e_pt0 | apply e_pt1 | apply e_slice | apply e_lc | apply lc_nil | apply lc_cons | apply e_yes | apply e_seqI | apply e_enum | apply e_rng1 | apply e_rng2 | apply e_callD | apply e_call | apply e_make | apply e_meth | apply e_prop | apply e_attr | apply e_neO | apply e_eqO | apply e_par3 | apply e_seq | apply sq_n | apply sq_r | apply sq_b | apply sq_c | apply e_set | apply e_par | apply e_asg | apply e_expr | apply e_app | apply e_ret | apply e_retN | apply e_nxt | apply e_flw | apply e_if | apply e_for | apply lp_nil | apply lp_cons | apply lp_n | apply lp_c | apply lp_b | apply lp_r | apply e_setI | apply e_setF | apply e_retM | apply e_pure | apply e_pureT | apply e_eqN | apply e_eqTu | apply e_appT | apply e_sem | apply ok_ok) | ((with_reducible refine c_t ?hb ?_); (case hb => decide)) | ((with_reducible refine c_f ?hb ?_); (case hb => decide)) | ((with_reducible refine c_t ?hb ?_); (case hb => first | with_reducible rfl | with_reducible assumption | (simp <;> omega) | omega)) | ((with_reducible refine c_f ?hb ?_); (case hb => first | with_reducible rfl | with_reducible assumption | (simp <;> omega) | omega)) | with_reducible (apply lc_put) | with_reducible (apply lc_skip)
/-! near stairs -/
abbrev nearT : FT := (fOrT (fBl (fEqO eqT (fVar 2) (fMake 0 2 i_Stair_init (fCons (f2 (fVar 4) (fLit (.int 0)) (p2 gSub2)) (fCons (f2 (fVar 4) (fLit (.int 1)) (p2 gSub2)) fNil))))) (fNotT (fBl (fNeO eqT (fVar 2) (fMake 0 2 i_Stair_init (fCons (f2 (fVar 4) (fLit (.int 0)) (p2 gSub2)) (fCons (f2 (fVar 4) (fLit (.int 1)) (p2 gSub2)) fNil)))))))
theorem ix_0 (x y : D) : gSub2 (.tup [x, y]) (.int 0) = some (.sh x) := rfl
theorem ix_1 (x y : D) : gSub2 (.tup [x, y]) (.int 1) = some (.sh y) := rfl
theorem near_test (b b' : Int) (cs c' : List Int) (hi : Inc c') (hz : c'.length < 900) (hne : b = b' → cs ≠ c') (x0 x1 x3 : Option Val) (S : Val) (hS : S = .sh (stD b cs) ∨ S = .oi 0 fsS [.sh (.int b), .sh (.tup (cs.map .int))]) :
    nearT [x0, x1, some S, x3, some (.sh (.tup [.int b', il c']))] = some (.ok (!(!false)) [x0, x1, some (.sh (stD b cs)), x3, some (.sh (.tup [.int b', il c']))]) := by
  have h1 := F_initS b' c' hi hz
  have h2 := F_eq b b' cs c'
  have hf : (decide (b = b') && decide (cs = c')) = false := by
    by_cases e : b = b'
    · rw [decide_eq_false (hne e), Bool.and_false]
    · rw [decide_eq_false e, Bool.false_and]
  rw [hf] at h2
  have d1 : D.obj 0 fsS [.int b, .tup (cs.map .int)] = stD b cs := rfl
  have d2 : D.obj 0 fsS [.int b', .tup (c'.map .int)] = stD b' c' := rfl
  have i0 := ix_0 (.int b') (il c')
  have i1 := ix_1 (.int b') (il c')
  unfold nearT
  rcases hS with rfl | rfl
  · repeat first | with_reducible (first | exact h1 | exact h2 | exact i0 | exact i1) | (refine Lf.mk ?_ <;> first | (simp only [sharE, immD, tupD, Option.map_none, Fi.dv, List.drop_nil, List.drop_zero, List.drop_succ_cons, prepAll, prep1, Val.top, Val.d, ds_sh, Val.ds, esc1, escAll, escS, argAll, pass1, arg1, backAll, back1, shAll, shOf, shAll_map, isOl, shList, itemsT, itemsL, gNm, gTp, gsCons, gsNil, wipeE, outF, List.getElem?_cons_zero, List.getElem?_cons_succ, List.getElem?_nil, List.set_cons_zero, List.set_cons_succ, List.headD_cons, List.headD_nil, List.tail_cons, List.tail_nil, List.length_cons, List.length_nil, List.map_cons, List.map_nil, List.replicate_zero, List.replicate_succ, List.cons_append, List.nil_append, List.append_nil, Nat.reduceAdd, Nat.reduceSub, Nat.reduceLT, Nat.reduceLeDiff, Nat.zero_add, Nat.add_zero, Nat.sub_self, Nat.zero_lt_succ, Nat.add_lt_add_iff_right, if_true, if_false, ite_true, ite_false, reduceIte, Bool.false_eq_true, Option.map_some, Option.bind_some, decide_true, decide_false, d1, d2] <;> first | exact rfl | decide) | exact rfl | decide) | (refine Gp.mk ?_ <;> first | with_reducible (first | exact h1 | exact h2 | exact i0 | exact i1) | (simp only [p1, p2, gAdd, Wp.gSub, gMul, gMod, gNeg, gCmp, cmpF, cLt, cLe, cGt, cGe, gEq, gNe, gIsN, gSub2, gIx, gLen, gMx2, gMn2, gInt, gBits, truthD, itemsX, itemsL, itemsT, shItems, shAll, shOf, shAll_map, Val.d, ds_sh, Val.ds, List.map_cons, List.map_nil, List.length_cons, List.length_nil, List.length_map, Option.map_some, Option.bind_some, Option.map_none, Option.bind_none, Bool.not_true, Bool.not_false, if_true, if_false, reduceIte, Bool.false_eq_true, numV, d1, d2] <;> exact rfl) | exact rfl) | (refine Sz.mk ?_ <;> first | assumption | with_reducible (first | exact h1 | exact h2 | exact i0 | exact i1) | (simp [sizeLine_eq]; done) | (simp [sizeLine_eq] <;> omega) | (simp [sizeLine_eq, small62] <;> omega)) | with_reducible (first | apply e_var | apply e_lit | apply e_f1 | apply e_f2 | apply e_fn | apply e_app1 | apply e_app2 | apply e_nil | apply e_cons | apply e_bl | apply e_tru | apply e_notT | apply e_andT | apply e_orT | apply e_andV | apply e_orV | apply e_notV | apply e_ite | apply e_disp | apply e_pt0 | apply e_pt1 | apply e_slice | apply e_lc | apply lc_nil | apply lc_cons | apply e_yes | apply e_seqI | apply e_enum | apply e_rng1 | apply e_rng2 | apply e_callD | apply e_call | apply e_make | apply e_meth | apply e_prop | apply e_attr | apply e_neO | apply e_eqO | apply e_par3 | apply e_seq | apply sq_n | apply sq_r | apply sq_b | apply sq_c | apply e_set | apply e_par | apply e_asg | apply e_expr | apply e_app | apply e_ret | apply e_retN | apply e_nxt | apply e_flw | apply e_if | apply e_for | apply lp_nil | apply lp_cons | apply lp_n | apply lp_c | apply lp_b | apply lp_r | apply e_setI | apply e_setF | apply e_retM | apply e_pure | apply e_pureT | apply e_eqN | apply e_eqTu | apply e_appT | apply e_sem | apply ok_ok) | ((with_reducible refine c_t ?hb ?_); (case hb => decide)) | ((with_reducible refine c_f ?hb ?_); (case hb => decide)) | ((with_reducible refine c_t ?hb ?_); (case hb => first | with_reducible rfl | with_reducible assumption | (simp [d1, d2] <;> omega) | omega)) | ((with_reducible refine c_f ?hb ?_); (case hb => first | with_reducible rfl | with_reducible assumption | (simp [d1, d2] <;> omega) | omega)) | with_reducible (apply lc_put) | with_reducible (apply lc_skip)
  · repeat first | with_reducible (first | exact h1 | exact h2 | exact i0 | exact i1) | (refine Lf.mk ?_ <;> first | (simp only [sharE, immD, tupD, Option.map_none, Fi.dv, List.drop_nil, List.drop_zero, List.drop_succ_cons, prepAll, prep1, Val.top, Val.d, ds_sh, Val.ds, esc1, escAll, escS, argAll, pass1, arg1, backAll, back1, shAll, shOf, shAll_map, isOl, shList, itemsT, itemsL, gNm, gTp, gsCons, gsNil, wipeE, outF, List.getElem?_cons_zero, List.getElem?_cons_succ, List.getElem?_nil, List.set_cons_zero, List.set_cons_succ, List.headD_cons, List.headD_nil, List.tail_cons, List.tail_nil, List.length_cons, List.length_nil, List.map_cons, List.map_nil, List.replicate_zero, List.replicate_succ, List.cons_append, List.nil_append, List.append_nil, Nat.reduceAdd, Nat.reduceSub, Nat.reduceLT, Nat.reduceLeDiff, Nat.zero_add, Nat.add_zero, Nat.sub_self, Nat.zero_lt_succ, Nat.add_lt_add_iff_right, if_true, if_false, ite_true, ite_false, reduceIte, Bool.false_eq_true, Option.map_some, Option.bind_some, decide_true, decide_false, d1, d2] <;> first | exact rfl | decide) | exact rfl | decide) | (refine Gp.mk ?_ <;> first | with_reducible (first | exact h1 | exact h2 | exact i0 | exact i1) | (simp only [p1, p2, gAdd, Wp.gSub, gMul, gMod, gNeg, gCmp, cmpF, cLt, cLe, cGt, cGe, gEq, gNe, gIsN, gSub2, gIx, gLen, gMx2, gMn2, gInt, gBits, truthD, itemsX, itemsL, itemsT, shItems, shAll, shOf, shAll_map, Val.d, ds_sh, Val.ds, List.map_cons, List.map_nil, List.length_cons, List.length_nil, List.length_map, Option.map_some, Option.bind_some, Option.map_none, Option.bind_none, Bool.not_true, Bool.not_false, if_true, if_false, reduceIte, Bool.false_eq_true, numV, d1, d2] <;> exact rfl) | exact rfl) | (refine Sz.mk ?_ <;> first | assumption | with_reducible (first | exact h1 | exact h2 | exact i0 | exact i1) | (simp [sizeLine_eq]; done) | (simp [sizeLine_eq] <;> omega) | (simp [sizeLine_eq, small62] <;> omega)) | with_reducible (first | apply e_var | apply e_lit | apply e_f1 | apply e_f2 | apply e_fn | apply e_app1 | apply e_app2 | apply e_nil | apply e_cons | apply e_bl | apply e_tru | apply e_notT | apply e_andT | apply e_orT | apply e_andV | apply e_orV | apply e_notV | apply e_ite | apply e_disp | apply e_pt0 | apply e_pt1 | apply e_slice | apply e_lc | apply lc_nil | apply lc_cons | apply e_yes | apply e_seqI | apply e_enum | apply e_rng1 | apply e_rng2 | apply e_callD | apply e_call | apply e_make | apply e_meth | apply e_prop | apply e_attr | apply e_neO | apply e_eqO | apply e_par3 | apply e_seq | apply sq_n | apply sq_r | apply sq_b | apply sq_c | apply e_set | apply e_par | apply e_asg | apply e_expr | apply e_app | apply e_ret | apply e_retN | apply e_nxt | apply e_flw | apply e_if | apply e_for | apply lp_nil | apply lp_cons | apply lp_n | apply lp_c | apply lp_b | apply lp_r | apply e_setI | apply e_setF | apply e_retM | apply e_pure | apply e_pureT | apply e_eqN | apply e_eqTu | apply e_appT | apply e_sem | apply ok_ok) | ((with_reducible refine c_t ?hb ?_); (case hb => decide)) | ((with_reducible refine c_f ?hb ?_); (case hb => decide)) | ((with_reducible refine c_t ?hb ?_); (case hb => first | with_reducible rfl | with_reducible assumption | (simp [d1, d2] <;> omega) | omega)) | ((with_reducible refine c_f ?hb ?_); (case hb => first | with_reducible rfl | with_reducible assumption | (simp [d1, d2] <;> omega) | omega)) | with_reducible (apply lc_put) | with_reducible (apply lc_skip)
end L43
end
section
set_option Elab.async false
set_option linter.all false
set_option maxRecDepth 100000
set_option maxHeartbeats 4000000
namespace L43
open PySem PySem.Spec PyProof.Rows L2 Wp
/-! R16: near_right -/
theorem inc_drop {cs : List Int} (h : Inc cs) : Inc cs.dropLast := ⟨h.1.sublist (List.dropLast_sublist cs), fun x hx => h.2 x ((List.dropLast_sublist cs).subset hx)⟩
theorem inc_tail {cs : List Int} (h : Inc cs) : Inc (cs.drop 1) := ⟨h.1.sublist (List.drop_sublist 1 cs), fun x hx => h.2 x ((List.drop_sublist 1 cs).subset hx)⟩
theorem sl_tailI (cs : List Int) : gSl (some 1) none (.lst (cs.map D.int)) = some (.ol (((cs.drop 1).map D.int).map .sh)) := by
  simp only [gSl]
  unfold Wp.cutD
  rw [show (some (1 : Int)) = some ((1 : Nat) : Int) from rfl, sIx_n, show HT.sIx (cs.map D.int).length (cs.map D.int).length none = (cs.map D.int).length from rfl]
  cases cs with
  | nil => rfl
  | cons d ds =>
    simp
    exact List.take_of_length_le (by simp)
theorem sl_front (cs : List Int) (hn : cs ≠ []) : gSl none (some (-1)) (.lst (cs.map D.int)) = some (.ol ((cs.dropLast.map D.int).map .sh)) := by
  obtain ⟨A, l, rfl⟩ : ∃ A l, cs = A ++ [l] := ⟨cs.dropLast, cs.getLast hn, (List.dropLast_concat_getLast hn).symm⟩
  simp only [gSl]
  unfold Wp.cutD
  have e1 : HT.sIx ((A ++ [l]).map D.int).length 0 none = 0 := rfl
  have e2 : HT.sIx ((A ++ [l]).map D.int).length ((A ++ [l]).map D.int).length (some (-1)) = A.length := by
    simp [HT.sIx]
    omega
  rw [e1, e2, List.drop_zero, Nat.sub_zero, List.dropLast_concat, List.map_append, List.take_left' (by simp)]
theorem F_near (b : Int) (A : List Int) (l : Int) (hi : Inc (A ++ [l])) (hz : (A ++ [l]).length < 800) : F__law_near_right [.sh (.int b), .sh (il (A ++ [l]))] = some (.ok (.sh (.bl true)) [some (.sh (.int b)), some (.sh (il (A ++ [l])))]) := by
  have hA : ∀ x ∈ A, x < l := fun x hx => (List.pairwise_append.mp hi.1).2.2 x hx l (by simp)
  have hl0 : 0 ≤ l := hi.2 l (by simp)
  have iA : Inc A := by have := inc_drop hi; rwa [List.dropLast_concat] at this
  have iT := inc_tail hi
  have iP : Inc (A ++ [l] ++ [l + 1]) := hi.snoc (fun x hx => by
    rcases List.mem_append.mp hx with z | z
    · have := hA x z
      omega
    · simp at z
      omega) (by omega)
  have iQ : Inc (A ++ [l + 1]) := iA.snoc (fun x hx => by have := hA x hx; omega) (by omega)
  have hlen : (A ++ [l]).length = A.length + 1 := by simp
  have m0 := F_initS b (A ++ [l]) hi (by omega)
  have s1 := sl_front (A ++ [l]) (by simp)
  rw [List.dropLast_concat] at s1
  have s2 := sl_tailI (A ++ [l])
  have l1 := at_m1 (xs := A ++ [l]) (v := l) (by simp)
  have a1 := add_tu (A ++ [l]) [l + 1] (by simp; omega)
  have a2 := add_tu A [l + 1] (by simp; omega)
  have n1 := fun x0 x1 x3 S hS => near_test b (b + 1) (A ++ [l]) (A ++ [l]) hi (by omega) (fun z => by omega) x0 x1 x3 S hS
  have n2 := fun x0 x1 x3 S hS => near_test b b (A ++ [l]) A iA (by omega) (fun _ z => by have := congrArg List.length z; simp at this) x0 x1 x3 S hS
  have n3 := fun x0 x1 x3 S hS => near_test b b (A ++ [l]) ((A ++ [l]).drop 1) iT (by rw [List.length_drop]; omega) (fun _ z => by have := congrArg List.length z; rw [List.length_drop] at this; omega) x0 x1 x3 S hS
  have n4 := fun x0 x1 x3 S hS => near_test b b (A ++ [l]) (A ++ [l] ++ [l + 1]) iP (by simp; omega) (fun _ z => by have := congrArg List.length z; simp at this) x0 x1 x3 S hS
  have n5 := fun x0 x1 x3 S hS => near_test b b (A ++ [l]) (A ++ [l + 1]) iQ (by simp; omega) (fun _ z => by have := List.append_cancel_left z; simp at this; omega) x0 x1 x3 S hS
  have d1 : D.obj 0 fsS [.int b, .tup ((A ++ [l]).map .int)] = stD b (A ++ [l]) := rfl
  have q1 : gEq (.lst []) (.lst []) = some (.sh (.bl true)) := by
    show (eqC (il []) (il [])).map _ = _
    rw [eqC_il]
    rfl
  simp only [il, List.map_cons, List.map_nil] at m0 s1 s2 l1 a1 a2 n1 n2 n3 n4 n5 ⊢
  generalize hC : (A ++ [l]).map D.int = C at *
  generalize A.map D.int = CA at *
  generalize ((A ++ [l]).drop 1).map D.int = CT at *
  generalize (A ++ [l] ++ [l + 1]).map D.int = CP at *
  generalize (A ++ [l + 1]).map D.int = CQ at *
  have g3 : gAdd (.lst [.tup [.int (b + 1), .lst C], .tup [.int b, .lst CA], .tup [.int b, .lst CT]]) (.lst [.tup [.int b, .lst CP]]) = some (.ol [.sh (.tup [.int (b + 1), .lst C]), .sh (.tup [.int b, .lst CA]), .sh (.tup [.int b, .lst CT]), .sh (.tup [.int b, .lst CP])]) := by
    simp only [gAdd]
    rw [if_pos (by rw [sizeLine_eq]; simp)]
    rfl
  unfold F__law_near_right
  repeat first | with_reducible (first | exact m0 | exact s1 | exact s2 | exact l1 | exact a1 | exact a2 | exact g3 | exact q1 | exact n1 _ _ _ _ (.inr rfl) | exact n1 _ _ _ _ (.inl rfl) | exact n2 _ _ _ _ (.inl rfl) | exact n3 _ _ _ _ (.inl rfl) | exact n4 _ _ _ _ (.inl rfl) | exact n5 _ _ _ _ (.inl rfl)) | (refine Lf.mk ?_ <;> first | (simp only [sharE, immD, tupD, Option.map_none, Fi.dv, List.drop_nil, List.drop_zero, List.drop_succ_cons, prepAll, prep1, Val.top, Val.d, ds_sh, Val.ds, esc1, escAll, escS, argAll, pass1, arg1, backAll, back1, shAll, shOf, shAll_map, isOl, shList, itemsT, itemsL, gNm, gTp, gsCons, gsNil, wipeE, outF, List.getElem?_cons_zero, List.getElem?_cons_succ, List.getElem?_nil, List.set_cons_zero, List.set_cons_succ, List.headD_cons, List.headD_nil, List.tail_cons, List.tail_nil, List.length_cons, List.length_nil, List.map_cons, List.map_nil, List.replicate_zero, List.replicate_succ, List.cons_append, List.nil_append, List.append_nil, Nat.reduceAdd, Nat.reduceSub, Nat.reduceLT, Nat.reduceLeDiff, Nat.zero_add, Nat.add_zero, Nat.sub_self, Nat.zero_lt_succ, Nat.add_lt_add_iff_right, if_true, if_false, ite_true, ite_false, reduceIte, Bool.false_eq_true, Option.map_some, Option.bind_some, decide_true, decide_false, d1] <;> first | exact rfl | decide) | exact rfl | decide) | (refine Gp.mk ?_ <;> first | with_reducible (first | exact m0 | exact s1 | exact s2 | exact l1 | exact a1 | exact a2 | exact g3 | exact q1 | exact n1 _ _ _ _ (.inr rfl) | exact n1 _ _ _ _ (.inl rfl) | exact n2 _ _ _ _ (.inl rfl) | exact n3 _ _ _ _ (.inl rfl) | exact n4 _ _ _ _ (.inl rfl) | exact n5 _ _ _ _ (.inl rfl)) | (simp only [p1, p2, gAdd, Wp.gSub, gMul, gMod, gNeg, gCmp, cmpF, cLt, cLe, cGt, cGe, gEq, gNe, gIsN, gSub2, gIx, gLen, gMx2, gMn2, gInt, gBits, truthD, itemsX, itemsL, itemsT, shItems, shAll, shOf, shAll_map, Val.d, ds_sh, Val.ds, List.map_cons, List.map_nil, List.length_cons, List.length_nil, List.length_map, Option.map_some, Option.bind_some, Option.map_none, Option.bind_none, Bool.not_true, Bool.not_false, if_true, if_false, reduceIte, Bool.false_eq_true, numV, d1] <;> exact rfl) | exact rfl) | (refine Sz.mk ?_ <;> first | assumption | with_reducible (first | exact m0 | exact s1 | exact s2 | exact l1 | exact a1 | exact a2 | exact g3 | exact q1 | exact n1 _ _ _ _ (.inr rfl) | exact n1 _ _ _ _ (.inl rfl) | exact n2 _ _ _ _ (.inl rfl) | exact n3 _ _ _ _ (.inl rfl) | exact n4 _ _ _ _ (.inl rfl) | exact n5 _ _ _ _ (.inl rfl)) | (simp [sizeLine_eq]; done) | (simp [sizeLine_eq] <;> omega) | (simp [sizeLine_eq, small62] <;> omega)) | with_reducible (first | apply e_var | apply e_lit | apply e_f1 | apply e_f2 | apply e_fn | apply e_app1 | apply e_app2 | apply e_nil | apply e_cons | apply e_bl | apply e_tru | apply e_notT | apply e_andT | apply e_orT | apply e_andV | apply e_orV | apply e_notV | apply e_ite | apply e_disp | apply e_pt0 | apply e_pt1 | apply e_slice | apply e_lc | apply lc_nil | apply lc_cons | apply e_yes | apply e_seqI | apply e_enum | apply e_rng1 | apply e_rng2 | apply e_callD | apply e_call | apply e_make | apply e_meth | apply e_prop | apply e_attr | apply e_neO | apply e_eqO | apply e_par3 | apply e_seq | apply sq_n | apply sq_r | apply sq_b | apply sq_c | apply e_set | apply e_par | apply e_asg | apply e_expr | apply e_app | apply e_ret | apply e_retN | apply e_nxt | apply e_flw | apply e_if | apply e_for | apply lp_nil | apply lp_cons | apply lp_n | apply lp_c | apply lp_b | apply lp_r | apply e_setI | apply e_setF | apply e_retM | apply e_pure | apply e_pureT | apply e_eqN | apply e_eqTu | apply e_appT | apply e_sem | apply ok_ok) | ((with_reducible refine c_t ?hb ?_); (case hb => decide)) | ((with_reducible refine c_f ?hb ?_); (case hb => decide)) | ((with_reducible refine c_t ?hb ?_); (case hb => first | with_reducible rfl | with_reducible assumption | (simp [d1] <;> omega) | omega)) | ((with_reducible refine c_f ?hb ?_); (case hb => first | with_reducible rfl | with_reducible assumption | (simp [d1] <;> omega) | omega)) | with_reducible (apply lc_put) | with_reducible (apply lc_skip)
end L43
end
section
set_option Elab.async false
set_option linter.all false
set_option maxRecDepth 100000
set_option maxHeartbeats 4000000
namespace L43
open PySem PySem.Spec PyProof.Rows L2 Wp
/-! R17: great_right -/
theorem mulOk_l {i j : Int} (h : i.natAbs < 2 ^ 64) : mulOk i j = true := by
  have : Builtin.Int.intBits i ≤ 64 := intBits_le h
  unfold mulOk
  have e : decide (Builtin.Int.intBits i > shortFactorBits) = false := decide_eq_false (by simp only [shortFactorBits]; omega)
  rw [e]
  simp
theorem mul_l {i j : Int} (h : i.natAbs < 2 ^ 64) : gMul (.int i) (.int j) = some (.sh (.int (i * j))) := by
  simp only [gMul, mulOk_l h, if_true]
theorem pow25 : gPow (.int 10) (.int 25) = some (.sh (.int (10 ^ 25))) := by
  simp only [gPow]
  rw [if_pos (by decide +kernel)]
  rfl
theorem inc2 {x y : Int} (h0 : 0 ≤ x) (h : x < y) : Inc [x, y] := ⟨by simp [h], by simp; omega⟩
theorem inc3 {x y z : Int} (h0 : 0 ≤ x) (h : x < y) (h2 : y < z) : Inc [x, y, z] := ⟨by simp; omega, by simp; omega⟩
theorem ne_same (ns : List Int) : gNe (.lst (ns.map D.int)) (.lst (ns.map D.int)) = some (.sh (.bl false)) := by
  show (eqC (il ns) (il ns)).map _ = _
  rw [eqC_il, decide_eq_true rfl]
  rfl
theorem F_greatR (a b c e : Int) (ha : 0 ≤ a) (hc : 0 ≤ c) (hc2 : c < 2 ^ 49) (he : 0 ≤ e) (he2 : e < 2 ^ 60) :
    ∃ a' c', 0 ≤ a' ∧ c ≤ c' ∧ c' ≤ c + 40 ∧ F__law_great_right [pu a b c e] = some (.ok (.sh (.bl true)) [some (pu a' b c' e)]) := by
  obtain ⟨o, a1, c1, o0, _, q1, q2, q3, hd⟩ := F_draw a b c e (10 ^ 25) ha (by decide +kernel) (by decide +kernel) hc (by omega) he he2
  obtain ⟨s, a2, c2, s0, _, q4, q5, q6, hd2⟩ := F_draw a1 b c1 e (10 ^ 25) q1 (by decide +kernel) (by decide +kernel) (by omega) (by omega) he he2
  refine ⟨a2, c2, q4, by omega, by omega, ?_⟩
  obtain ⟨t, h2⟩ : ∃ t, 1 + s = t := ⟨_, rfl⟩
  have gB : gAdd (.int 1) (.int s) = some (.sh (.int t)) := by simp only [gAdd, h2]
  have t0 : 0 < t := by omega
  clear h2
  have iA : Inc [o, o + t, o + t + t] := inc3 o0 (by omega) (by omega)
  have iB : Inc [t, t + 5] := inc2 (by omega) (by omega)
  have m1 := F_initO (0 - o) [o, o + t, o + t + t] iA (by simp)
  have m2 := F_initO o [t, t + 5] iB (by simp)
  have v1 := F_value (0 - o) [o, o + t, o + t + t] o o0 (by simp)
  have v2 := F_value (0 - o) [o, o + t, o + t + t] (o + t) (by omega) (by simp)
  have v3 := F_value (0 - o) [o, o + t, o + t + t] (o + t + t) (by omega) (by simp)
  have v4 := F_value (0 - o) [o, o + t, o + t + t] (2 * o + 2 * t) (by omega) (by simp)
  rw [show ht (0 - o) [o, o + t, o + t + t] o = 0 - o by simp only [ht]; omega] at v1
  rw [show ht (0 - o) [o, o + t, o + t + t] (o + t) = t - o by simp only [ht]; omega] at v2
  rw [show ht (0 - o) [o, o + t, o + t + t] (o + t + t) = t - o by simp only [ht]; omega] at v3
  rw [show ht (0 - o) [o, o + t, o + t + t] (2 * o + 2 * t) = t by simp only [ht]; omega] at v4
  have u1 := F_und (0 - o) [o, o + t, o + t + t] (0 - o - 1) (by simp)
  have u2 := F_und (0 - o) [o, o + t, o + t + t] (0 - o) (by simp)
  have u3 := F_und (0 - o) [o, o + t, o + t + t] (t - o) (by simp)
  have u4 := F_und (0 - o) [o, o + t, o + t + t] t (by simp)
  rw [show oI (lastA (0 - o) [o, o + t, o + t + t] (0 - o - 1)) = .int (-1) by unfold lastA; rw [if_pos (by omega)]; rfl] at u1
  rw [show oI (lastA (0 - o) [o, o + t, o + t + t] (0 - o)) = .int o by
    unfold lastA
    rw [if_neg (by omega)]
    simp only [la]
    rw [if_pos (by omega), show o + (0 - o) - (0 - o) = o by omega]
    rfl] at u2
  rw [show oI (lastA (0 - o) [o, o + t, o + t + t] (t - o)) = .int (o + 2 * t) by
    unfold lastA
    rw [if_neg (by omega)]
    simp only [la]
    rw [if_neg (by omega), show o + t + t + (t - o) - (0 - o + (o + t) - o) = o + 2 * t by omega]
    rfl] at u3
  rw [show oI (lastA (0 - o) [o, o + t, o + t + t] t) = .int (2 * o + 2 * t) by
    unfold lastA
    rw [if_neg (by omega)]
    simp only [la]
    rw [if_neg (by omega), show o + t + t + t - (0 - o + (o + t) - o) = 2 * o + 2 * t by omega]
    rfl] at u4
  have e1 := F_end1 (0 - o) [o, o + t, o + t + t] (by show ((3 : Nat) : Int).fmod 2 = 1; decide)
  have e2 := F_end0 o [t, t + 5] iB (by simp) (by show ((2 : Nat) : Int).fmod 2 = 0; decide) (t + 5) (by simp; omega) (by omega)
  rw [show ht o [t, t + 5] (t + 5) = o + 5 by simp only [ht]; omega] at e2
  have p1 := mul_l (i := 2) (j := o) (by decide)
  have p2 := mul_l (i := 2) (j := t) (by decide)
  have n1 := ne_same [0 - o, t - o, t - o, t]
  have n2 := ne_same [-1, o, o + 2 * t, 2 * o + 2 * t]
  have n3 := eq_int (o + 5) (o + 5)
  rw [decide_eq_true rfl] at n3
  have s1 : D.obj 0 fsS [.int (0 - o), .tup [.int o, .int (o + t), .int (o + t + t)]] = stD (0 - o) [o, o + t, o + t + t] := rfl
  have s2 : D.obj 0 fsS [.int o, .tup [.int t, .int (t + 5)]] = stD o [t, t + 5] := rfl
  simp only [iv, il, List.map_cons, List.map_nil] at m1 m2 n1 n2
  unfold pu at *
  unfold F__law_great_right
  repeat first | with_reducible (first | exact hd | exact hd2 | exact pow25 | exact gB | exact m1 | exact m2 | exact v1 | exact v2 | exact v3 | exact v4 | exact u1 | exact u2 | exact u3 | exact u4 | exact e1 | exact e2 | exact p1 | exact p2 | exact n1 | exact n2 | exact n3) | (refine Lf.mk ?_ <;> first | (simp only [sharE, immD, tupD, Option.map_none, Fi.dv, List.drop_nil, List.drop_zero, List.drop_succ_cons, prepAll, prep1, Val.top, Val.d, ds_sh, Val.ds, esc1, escAll, escS, argAll, pass1, arg1, backAll, back1, shAll, shOf, shAll_map, isOl, shList, itemsT, itemsL, gNm, gTp, gsCons, gsNil, wipeE, outF, List.getElem?_cons_zero, List.getElem?_cons_succ, List.getElem?_nil, List.set_cons_zero, List.set_cons_succ, List.headD_cons, List.headD_nil, List.tail_cons, List.tail_nil, List.length_cons, List.length_nil, List.map_cons, List.map_nil, List.replicate_zero, List.replicate_succ, List.cons_append, List.nil_append, List.append_nil, Nat.reduceAdd, Nat.reduceSub, Nat.reduceLT, Nat.reduceLeDiff, Nat.zero_add, Nat.add_zero, Nat.sub_self, Nat.zero_lt_succ, Nat.add_lt_add_iff_right, if_true, if_false, ite_true, ite_false, reduceIte, Bool.false_eq_true, Option.map_some, Option.bind_some, decide_true, decide_false, s1, s2] <;> first | exact rfl | decide) | exact rfl | decide) | (refine Gp.mk ?_ <;> first | with_reducible (first | exact hd | exact hd2 | exact pow25 | exact gB | exact m1 | exact m2 | exact v1 | exact v2 | exact v3 | exact v4 | exact u1 | exact u2 | exact u3 | exact u4 | exact e1 | exact e2 | exact p1 | exact p2 | exact n1 | exact n2 | exact n3) | (simp only [p1, p2, gAdd, Wp.gSub, gMul, gMod, gNeg, gCmp, cmpF, cLt, cLe, cGt, cGe, gEq, gNe, gIsN, gSub2, gIx, gLen, gMx2, gMn2, gInt, gBits, truthD, itemsX, itemsL, itemsT, shItems, shAll, shOf, shAll_map, Val.d, ds_sh, Val.ds, List.map_cons, List.map_nil, List.length_cons, List.length_nil, List.length_map, Option.map_some, Option.bind_some, Option.map_none, Option.bind_none, Bool.not_true, Bool.not_false, if_true, if_false, reduceIte, Bool.false_eq_true, numV, s1, s2] <;> exact rfl) | exact rfl) | (refine Sz.mk ?_ <;> first | assumption | with_reducible (first | exact hd | exact hd2 | exact pow25 | exact gB | exact m1 | exact m2 | exact v1 | exact v2 | exact v3 | exact v4 | exact u1 | exact u2 | exact u3 | exact u4 | exact e1 | exact e2 | exact p1 | exact p2 | exact n1 | exact n2 | exact n3) | (simp [sizeLine_eq]; done) | (simp [sizeLine_eq] <;> omega) | (simp [sizeLine_eq, small62] <;> omega)) | with_reducible (first | apply e_var | apply e_lit | apply e_f1 | apply e_f2 | apply e_fn | apply e_app1 | apply e_app2 | apply e_nil | apply e_cons | apply e_bl | apply e_tru | apply e_notT | apply e_andT | apply e_orT | apply e_andV | apply e_orV | apply e_notV | apply e_ite | apply e_disp | apply e_pt0 | apply e_pt1 | apply e_slice | apply e_lc | apply lc_nil | apply lc_cons | apply e_yes | apply e_seqI | apply e_enum | apply e_rng1 | apply e_rng2 | apply e_callD | apply e_call | apply e_make | apply e_meth | apply e_prop | apply e_attr | apply e_neO | apply e_eqO | apply e_par3 | apply e_seq | apply sq_n | apply sq_r | apply sq_b | apply sq_c | apply e_set | apply e_par | apply e_asg | apply e_expr | apply e_app | apply e_ret | apply e_retN | apply e_nxt | apply e_flw | apply e_if | apply e_for | apply lp_nil | apply lp_cons | apply lp_n | apply lp_c | apply lp_b | apply lp_r | apply e_setI | apply e_setF | apply e_retM | apply e_pure | apply e_pureT | apply e_eqN | apply e_eqTu | apply e_appT | apply e_sem | apply ok_ok) | ((with_reducible refine c_t ?hb ?_); (case hb => decide)) | ((with_reducible refine c_f ?hb ?_); (case hb => decide)) | ((with_reducible refine c_t ?hb ?_); (case hb => first | with_reducible rfl | with_reducible assumption | (simp [s1, s2] <;> omega) | omega)) | ((with_reducible refine c_f ?hb ?_); (case hb => first | with_reducible rfl | with_reducible assumption | (simp [s1, s2] <;> omega) | omega)) | with_reducible (apply lc_put) | with_reducible (apply lc_skip)
end L43
end
section
set_option Elab.async false
set_option linter.all false
set_option maxRecDepth 100000
set_option maxHeartbeats 4000000
namespace L43
open PySem PySem.Spec PyProof.Rows L2 Wp
/-! R18: what is shown; the values at the first counts -/
def oP : Option Int → PyData
  | none => .none
  | some i => .int i
def Sm (o : Option Int) : Prop := ∀ i, o = some i → -1000 < i ∧ i < 1000
theorem oP_in {o : Option Int} (h : Sm o) : noneOrIn (-1000) 1000 (oP o) = true := by
  cases o with
  | none => rfl
  | some i =>
    obtain ⟨h1, h2⟩ := h i rfl
    simp [oP, noneOrIn, h1, h2]
theorem oP_w {o : Option Int} (h : Sm o) : (oP o).weight ≤ 10 := by
  cases o with
  | none => simp [oP, PyData.weight]
  | some i =>
    obtain ⟨h1, h2⟩ := h i rfl
    simp only [oP, PyData.weight]
    split
    · omega
    · have : i.natAbs.log2 < 10 := log2_small (by omega) (by decide)
      omega
theorem oP_d (o : Option Int) : (oP o).depth = 0 ∧ (oP o).canLay0 = true := by
  cases o <;> simp [oP, PyData.depth, PyData.canLay0]
theorem showOk1 {o : Option Int} (h : Sm o) : showOk (oP o) = true := by
  have h1 := oP_in h
  have a1 := showable_of_noneOrIn (lo := -1000) (hi := 1000) (by decide +kernel) (by decide +kernel) _ h1
  have a2 := intsShort_of_noneOrIn (lo := -1000) (hi := 1000) (by decide) (by decide) _ h1
  have a3 : PyData.layable0 (oP o) = true := by
    have := oP_w h
    unfold PyData.layable0
    rw [(oP_d o).1, (oP_d o).2, decide_eq_true (show (oP o).weight ≤ 2 ^ 20 by omega)]
    rfl
  have a4 := shown_le13 a3 a2
  unfold showOk
  rw [a1, decide_eq_true (show (oP o).depth ≤ 60 by rw [(oP_d o).1]; decide), decide_eq_true (by rw [sizeLine_eq]; omega)]
  rfl
theorem toPy_o (o : Option Int) : toPy (oI o) = some (oP o) := by cases o <;> rfl
theorem rep1 {o : Option Int} (h : Sm o) : ∃ s, gRepr (oI o) = some (.sh (.str s)) := by
  refine ⟨(oP o).shown, ?_⟩
  unfold gRepr
  rw [toPy_o, Option.bind_some, if_pos (showOk1 h)]
theorem ints_w : ∀ {cs : List Int}, (∀ x ∈ cs, -1000 < x ∧ x < 1000) → PyData.weightAll (cs.map .int) ≤ 12 * cs.length
  | [], _ => by simp [PyData.weightAll]
  | c :: cs, h => by
    have h1 := oP_w (o := some c) fun i e => by
      obtain rfl := Option.some.inj e
      exact h _ (List.mem_cons_self ..)
    have h2 := ints_w fun x hx => h x (List.mem_cons_of_mem c hx)
    simp only [oP] at h1
    simp only [List.map_cons, PyData.weightAll, List.length_cons]
    omega
theorem showOk2 {b : Int} {cs : List Int} (hb : -1000 < b ∧ b < 1000) (h : ∀ x ∈ cs, -1000 < x ∧ x < 1000) (hl : cs.length ≤ 100) : showOk (.list [.int b, .list (cs.map .int)]) = true := by
  have k1 := oP_in (o := some b) fun i e => by
    obtain rfl := Option.some.inj e
    exact hb
  have k2 : ((cs.map PyData.int).all (noneOrIn (-1000) 1000)) = true := by
    rw [List.all_map, List.all_eq_true]
    intro x hx
    have := h x hx
    simp [noneOrIn, this.1, this.2]
  have s1 : PyData.showable (.int b) = true := showable_of_noneOrIn (lo := -1000) (hi := 1000) (by decide +kernel) (by decide +kernel) (.int b) k1
  have s2 : PyData.intsShort 13 (.int b) = true := intsShort_of_noneOrIn (lo := -1000) (hi := 1000) (by decide) (by decide) (.int b) k1
  have s3 : PyData.showableAll (cs.map .int) = true := showableAll_of_noneOrIn k2 (by decide +kernel) (by decide +kernel)
  have s4 : PyData.intsShortAll 13 (cs.map .int) = true := intsShortAll_of_noneOrIn k2 (by decide) (by decide)
  have w1 := oP_w (o := some b) fun i e => by
    obtain rfl := Option.some.inj e
    exact hb
  have w2 := ints_w h
  simp only [oP] at w1
  have dd := depth_ints cs
  have a1 : PyData.showable (.list [.int b, .list (cs.map .int)]) = true := by
    simp only [PyData.showable] at s1
    simp only [PyData.showable, PyData.showableAll, s1, s3, Bool.and_self, Bool.and_true]
  have a2 : PyData.intsShort 13 (.list [.int b, .list (cs.map .int)]) = true := by
    simp only [PyData.intsShort] at s2
    simp only [PyData.intsShort, PyData.intsShortAll, s2, s4, Bool.and_self, Bool.and_true]
  have a3 : PyData.layable0 (.list [.int b, .list (cs.map .int)]) = true := by
    unfold PyData.layable0
    simp only [PyData.depth, PyData.depthAll, PyData.canLay0, PyData.canLayAll0, PyData.weight, PyData.weightAll, lay_ints, Bool.and_self, Bool.true_and, Bool.and_eq_true, decide_eq_true_eq]
    simp only [PyData.weight] at w1
    exact ⟨decide_eq_true (by omega), decide_eq_true (by omega)⟩
  have a4 := shown_le13 a3 a2
  unfold showOk
  rw [a1, decide_eq_true (show (PyData.list [.int b, .list (cs.map .int)]).depth ≤ 60 by simp only [PyData.depth, PyData.depthAll]; omega), decide_eq_true (by rw [sizeLine_eq]; omega)]
  rfl
theorem rep2 {b : Int} {cs : List Int} (hb : -1000 < b ∧ b < 1000) (h : ∀ x ∈ cs, -1000 < x ∧ x < 1000) (hl : cs.length ≤ 100) : ∃ s, gRepr (.lst [.int b, il cs]) = some (.sh (.str s)) := by
  refine ⟨(PyData.list [.int b, .list (cs.map .int)]).shown, ?_⟩
  unfold gRepr
  simp only [il, toPy, toPys, toPys_ints, Option.map_some, Option.bind_some]
  rw [if_pos (showOk2 hb h hl)]
def zV (f : Nat → Int) : Val → Val
  | .sh (.int n) => .sh (.int (f n.toNat))
  | y => y
theorem zV_map (f : Nat → Int) (n : Nat) : ((rngV 0 n).filter fun _ => true).map (zV f) = ((rgI n f).map D.int).map .sh := by
  unfold rngV rgI
  rw [List.filter_eq_self.mpr (fun _ _ => rfl), List.map_map, List.map_map, List.map_map]
  refine List.map_congr_left fun i _ => ?_
  simp [zV, Function.comp]
theorem val_lc (x0 x1 x2 x3 x5 x6 x7 x8 x9 x10 : Option Val) (b : Int) (cs : List Int) (hl : cs.length < 900) : fLc 12 [11] (fRng1 (fCons (fLit (.int 41)) fNil)) (gNm 11) fYes (fMeth mt_value "value" 1 (fVar 4) (fCons (fVar 11) fNil)) [x0, x1, x2, x3, some (.sh (stD b cs)), x5, x6, x7, x8, x9, x10, none] =
    some (.ok (.pend (iv (rgI 41 fun i => ht b cs i))) [x0, x1, x2, x3, some (.sh (stD b cs)), x5, x6, x7, x8, x9, x10, none]) := by
  have hi : fRng1 (fCons (fLit (.int 41)) fNil) [x0, x1, x2, x3, some (.sh (stD b cs)), x5, x6, x7, x8, x9, x10, none] = some (.ok (rngV 0 41) [x0, x1, x2, x3, some (.sh (stD b cs)), x5, x6, x7, x8, x9, x10, none]) := by
    have : rngV 0 (41 : Int).toNat = rngV 0 41 := rfl
    rw [← this]
    repeat first | fail | (refine Lf.mk ?_ <;> first | (simp only [sharE, immD, tupD, Option.map_none, Fi.dv, List.drop_nil, List.drop_zero, List.drop_succ_cons, prepAll, prep1, Val.top, Val.d, ds_sh, Val.ds, esc1, escAll, escS, argAll, pass1, arg1, backAll, back1, shAll, shOf, shAll_map, isOl, shList, itemsT, itemsL, gNm, gTp, gsCons, gsNil, wipeE, outF, List.getElem?_cons_zero, List.getElem?_cons_succ, List.getElem?_nil, List.set_cons_zero, List.set_cons_succ, List.headD_cons, List.headD_nil, List.tail_cons, List.tail_nil, List.length_cons, List.length_nil, List.map_cons, List.map_nil, List.replicate_zero, List.replicate_succ, List.cons_append, List.nil_append, List.append_nil, Nat.reduceAdd, Nat.reduceSub, Nat.reduceLT, Nat.reduceLeDiff, Nat.zero_add, Nat.add_zero, Nat.sub_self, Nat.zero_lt_succ, Nat.add_lt_add_iff_right, if_true, if_false, ite_true, ite_false, reduceIte, Bool.false_eq_true, Option.map_some, Option.bind_some, decide_true, decide_false] <;> first | exact rfl | decide) | exact rfl | decide) | (refine Gp.mk ?_ <;> first | fail | (simp only [p1, p2, gAdd, Wp.gSub, gMul, gMod, gNeg, gCmp, cmpF, cLt, cLe, cGt, cGe, gEq, gNe, gIsN, gSub2, gIx, gLen, gMx2, gMn2, gInt, gBits, truthD, itemsX, itemsL, itemsT, shItems, shAll, shOf, shAll_map, Val.d, ds_sh, Val.ds, List.map_cons, List.map_nil, List.length_cons, List.length_nil, List.length_map, Option.map_some, Option.bind_some, Option.map_none, Option.bind_none, Bool.not_true, Bool.not_false, if_true, if_false, reduceIte, Bool.false_eq_true, numV] <;> exact rfl) | exact rfl) | (refine Sz.mk ?_ <;> first | assumption | fail | (simp [sizeLine_eq]; done) | (simp [sizeLine_eq] <;> omega) | (simp [sizeLine_eq, small62] <;> omega)) | with_reducible (first | apply e_var | apply e_lit | apply e_f1 | apply e_f2 | apply e_fn | apply e_app1 | apply e_app2 | apply e_nil | apply e_cons | apply e_bl | apply e_tru | apply e_notT | apply e_andT | apply e_orT | apply e_andV | apply e_orV | apply e_notV | apply e_ite | apply e_disp | apply e_pt0 | apply e_pt1 | apply e_slice | apply e_lc | apply lc_nil | apply lc_cons | apply e_yes | apply e_seqI | apply e_enum | apply e_rng1 | apply e_rng2 | apply e_callD | apply e_call | apply e_make | apply e_meth | apply e_prop | apply e_attr | apply e_neO | apply e_eqO | apply e_par3 | apply e_seq | apply sq_n | apply sq_r | apply sq_b | apply sq_c | apply e_set | apply e_par | apply e_asg | apply e_expr | apply e_app | apply e_ret | apply e_retN | apply e_nxt | apply e_flw | apply e_if | apply e_for | apply lp_nil | apply lp_cons | apply lp_n | apply lp_c | apply lp_b | apply lp_r | apply e_setI | apply e_setF | apply e_retM | apply e_pure | apply e_pureT | apply e_eqN | apply e_eqTu | apply e_appT | apply e_sem | apply ok_ok) | ((with_reducible refine c_t ?hb ?_); (case hb => decide)) | ((with_reducible refine c_f ?hb ?_); (case hb => decide)) | ((with_reducible refine c_t ?hb ?_); (case hb => first | with_reducible rfl | with_reducible assumption | (simp <;> omega) | omega)) | ((with_reducible refine c_f ?hb ?_); (case hb => first | with_reducible rfl | with_reducible assumption | (simp <;> omega) | omega)) | with_reducible (apply lc_put) | with_reducible (apply lc_skip)
  refine e_lc hi ⟨rfl⟩ ⟨rfl⟩ ?_
  rw [loopC_pure (fun _ => true) (zV fun i => ht b cs i)]
  · rw [zV_map, List.nil_append]
    rfl
  · rw [sizeLine_eq, rngV_len]
    simp
  · intro y hy
    obtain ⟨i, hi, rfl⟩ := rng_mem hy
    have hv := F_value b cs i (by omega) hl
    refine ⟨[x0, x1, x2, x3, some (.sh (stD b cs)), x5, x6, x7, x8, x9, x10, some (.sh (.int i))], rfl, rfl, [x0, x1, x2, x3, some (.sh (stD b cs)), x5, x6, x7, x8, x9, x10, some (.sh (.int i))], rfl, fun _ => ⟨.pend (.sh (.int (ht b cs i))), [x0, x1, x2, x3, some (.sh (stD b cs)), x5, x6, x7, x8, x9, x10, some (.sh (.int i))], [x0, x1, x2, x3, some (.sh (stD b cs)), x5, x6, x7, x8, x9, x10, some (.sh (.int i))], ?_, ?_, rfl⟩, fun z => Bool.noConfusion z⟩
    · repeat first | with_reducible (first | exact hv) | (refine Lf.mk ?_ <;> first | (simp only [sharE, immD, tupD, Option.map_none, Fi.dv, List.drop_nil, List.drop_zero, List.drop_succ_cons, prepAll, prep1, Val.top, Val.d, ds_sh, Val.ds, esc1, escAll, escS, argAll, pass1, arg1, backAll, back1, shAll, shOf, shAll_map, isOl, shList, itemsT, itemsL, gNm, gTp, gsCons, gsNil, wipeE, outF, List.getElem?_cons_zero, List.getElem?_cons_succ, List.getElem?_nil, List.set_cons_zero, List.set_cons_succ, List.headD_cons, List.headD_nil, List.tail_cons, List.tail_nil, List.length_cons, List.length_nil, List.map_cons, List.map_nil, List.replicate_zero, List.replicate_succ, List.cons_append, List.nil_append, List.append_nil, Nat.reduceAdd, Nat.reduceSub, Nat.reduceLT, Nat.reduceLeDiff, Nat.zero_add, Nat.add_zero, Nat.sub_self, Nat.zero_lt_succ, Nat.add_lt_add_iff_right, if_true, if_false, ite_true, ite_false, reduceIte, Bool.false_eq_true, Option.map_some, Option.bind_some, decide_true, decide_false] <;> first | exact rfl | decide) | exact rfl | decide) | (refine Gp.mk ?_ <;> first | with_reducible (first | exact hv) | (simp only [p1, p2, gAdd, Wp.gSub, gMul, gMod, gNeg, gCmp, cmpF, cLt, cLe, cGt, cGe, gEq, gNe, gIsN, gSub2, gIx, gLen, gMx2, gMn2, gInt, gBits, truthD, itemsX, itemsL, itemsT, shItems, shAll, shOf, shAll_map, Val.d, ds_sh, Val.ds, List.map_cons, List.map_nil, List.length_cons, List.length_nil, List.length_map, Option.map_some, Option.bind_some, Option.map_none, Option.bind_none, Bool.not_true, Bool.not_false, if_true, if_false, reduceIte, Bool.false_eq_true, numV] <;> exact rfl) | exact rfl) | (refine Sz.mk ?_ <;> first | assumption | with_reducible (first | exact hv) | (simp [sizeLine_eq]; done) | (simp [sizeLine_eq] <;> omega) | (simp [sizeLine_eq, small62] <;> omega)) | with_reducible (first | apply e_var | apply e_lit | apply e_f1 | apply e_f2 | apply e_fn | apply e_app1 | apply e_app2 | apply e_nil | apply e_cons | apply e_bl | apply e_tru | apply e_notT | apply e_andT | apply e_orT | apply e_andV | apply e_orV | apply e_notV | apply e_ite | apply e_disp | apply e_pt0 | apply e_pt1 | apply e_slice | apply e_lc | apply lc_nil | apply lc_cons | apply e_yes | apply e_seqI | apply e_enum | apply e_rng1 | apply e_rng2 | apply e_callD | apply e_call | apply e_make | apply e_meth | apply e_prop | apply e_attr | apply e_neO | apply e_eqO | apply e_par3 | apply e_seq | apply sq_n | apply sq_r | apply sq_b | apply sq_c | apply e_set | apply e_par | apply e_asg | apply e_expr | apply e_app | apply e_ret | apply e_retN | apply e_nxt | apply e_flw | apply e_if | apply e_for | apply lp_nil | apply lp_cons | apply lp_n | apply lp_c | apply lp_b | apply lp_r | apply e_setI | apply e_setF | apply e_retM | apply e_pure | apply e_pureT | apply e_eqN | apply e_eqTu | apply e_appT | apply e_sem | apply ok_ok) | ((with_reducible refine c_t ?hb ?_); (case hb => decide)) | ((with_reducible refine c_f ?hb ?_); (case hb => decide)) | ((with_reducible refine c_t ?hb ?_); (case hb => first | with_reducible rfl | with_reducible assumption | (simp <;> omega) | omega)) | ((with_reducible refine c_f ?hb ?_); (case hb => first | with_reducible rfl | with_reducible assumption | (simp <;> omega) | omega)) | with_reducible (apply lc_put) | with_reducible (apply lc_skip)
    · show some (Val.sh (.int (ht b cs i)), _) = some (Val.sh (.int (ht b cs ((i : Int).toNat))), _)
      rw [Int.toNat_natCast]
abbrev numB : FS := (fIf (fBl (f2 (fn (fCons (fMeth mt_undone "undone" 1 (fVar 4) (fCons (fVar 7) fNil)) fNil) (p1 gRepr)) (fn (fCons (fCallN i__law_undone 3 (fCons (fVar 5) (fCons (fVar 7) (fCons (fVar 6) fNil)))) fNil) (p1 gRepr)) (p2 gNe))) (fRet (fLit (.bl false))) fNext)
theorem ne_str (s : Str) : gNe (.str s) (.str s) = some (.sh (.bl false)) := by
  show (some (decide (s = s))).map _ = _
  rw [decide_eq_true rfl]
  rfl
theorem num_body (x0 x1 x2 x3 x8 x9 x10 : Option Val) (b : Int) (cs : List Int) (hi : Inc cs) (hl : cs.length < 900) (h40 : ∀ x ∈ cs, x ≤ 40) (n : Int) (hn : -100 < n ∧ n < 100) (hb : -100 < b ∧ b < 100) :
    numB [x0, x1, x2, x3, some (.sh (stD b cs)), some (.sh (il (rgI 41 fun i => ht b cs i))), some (.sh (.bl (decide (rise cs = 1)))), some (.sh (.int n)), x8, x9, x10, none] = some (.ok .next [x0, x1, x2, x3, some (.sh (stD b cs)), some (.sh (il (rgI 41 fun i => ht b cs i))), some (.sh (.bl (decide (rise cs = 1)))), some (.sh (.int n)), x8, x9, x10, none]) := by
  have h1 := F_und b cs n hl
  have h2 := F_lund b n cs
  have ue := undone_eq (b := b) (n := n) hi h40
  have hsm : Sm (lastA b cs n) := by
    rw [← ue]
    intro i e
    unfold undoneL at e
    have h4 : b ≤ ht b cs 40 := by
      have := ht_mono hi.1 b (show (0 : Int) ≤ 40 by decide)
      rwa [ht_zero hi] at this
    cases hk : lastN (fun i => ht b cs i) n 41 with
    | none =>
      rw [hk] at e
      obtain rfl := Option.some.inj e
      omega
    | some k =>
      rw [hk] at e
      obtain ⟨k1, k2, _⟩ := lastN_some hk
      try simp only at k2
      simp only at e
      split at e
      · have := Option.some.inj e
        omega
      · split at e
        · have := Option.some.inj e
          obtain rfl : k = 40 := by omega
          have k2 : ht b cs 40 ≤ n := k2
          omega
        · cases e
  obtain ⟨s, hs⟩ := rep1 hsm
  rw [ue] at h2
  have h3 := ne_str s
  generalize il (rgI 41 fun i => ht b cs i) = S at *
  generalize oI (lastA b cs n) = R at *
  generalize decide (rise cs = 1) = B at *
  repeat first | with_reducible (first | exact h1 | exact h2 | exact hs | exact h3) | (refine Lf.mk ?_ <;> first | (simp only [sharE, immD, tupD, Option.map_none, Fi.dv, List.drop_nil, List.drop_zero, List.drop_succ_cons, prepAll, prep1, Val.top, Val.d, ds_sh, Val.ds, esc1, escAll, escS, argAll, pass1, arg1, backAll, back1, shAll, shOf, shAll_map, isOl, shList, itemsT, itemsL, gNm, gTp, gsCons, gsNil, wipeE, outF, List.getElem?_cons_zero, List.getElem?_cons_succ, List.getElem?_nil, List.set_cons_zero, List.set_cons_succ, List.headD_cons, List.headD_nil, List.tail_cons, List.tail_nil, List.length_cons, List.length_nil, List.map_cons, List.map_nil, List.replicate_zero, List.replicate_succ, List.cons_append, List.nil_append, List.append_nil, Nat.reduceAdd, Nat.reduceSub, Nat.reduceLT, Nat.reduceLeDiff, Nat.zero_add, Nat.add_zero, Nat.sub_self, Nat.zero_lt_succ, Nat.add_lt_add_iff_right, if_true, if_false, ite_true, ite_false, reduceIte, Bool.false_eq_true, Option.map_some, Option.bind_some, decide_true, decide_false] <;> first | exact rfl | decide) | exact rfl | decide) | (refine Gp.mk ?_ <;> first | with_reducible (first | exact h1 | exact h2 | exact hs | exact h3) | (simp only [p1, p2, gAdd, Wp.gSub, gMul, gMod, gNeg, gCmp, cmpF, cLt, cLe, cGt, cGe, gEq, gNe, gIsN, gSub2, gIx, gLen, gMx2, gMn2, gInt, gBits, truthD, itemsX, itemsL, itemsT, shItems, shAll, shOf, shAll_map, Val.d, ds_sh, Val.ds, List.map_cons, List.map_nil, List.length_cons, List.length_nil, List.length_map, Option.map_some, Option.bind_some, Option.map_none, Option.bind_none, Bool.not_true, Bool.not_false, if_true, if_false, reduceIte, Bool.false_eq_true, numV] <;> exact rfl) | exact rfl) | (refine Sz.mk ?_ <;> first | assumption | with_reducible (first | exact h1 | exact h2 | exact hs | exact h3) | (simp [sizeLine_eq]; done) | (simp [sizeLine_eq] <;> omega) | (simp [sizeLine_eq, small62] <;> omega)) | with_reducible (first | apply e_var | apply e_lit | apply e_f1 | apply e_f2 | apply e_fn | apply e_app1 | apply e_app2 | apply e_nil | apply e_cons | apply e_bl | apply e_tru | apply e_notT | apply e_andT | apply e_orT | apply e_andV | apply e_orV | apply e_notV | apply e_ite | apply e_disp | apply e_pt0 | apply e_pt1 | apply e_slice | apply e_lc | apply lc_nil | apply lc_cons | apply e_yes | apply e_seqI | apply e_enum | apply e_rng1 | apply e_rng2 | apply e_callD | apply e_call | apply e_make | apply e_meth | apply e_prop | apply e_attr | apply e_neO | apply e_eqO | apply e_par3 | apply e_seq | apply sq_n | apply sq_r | apply sq_b | apply sq_c | apply e_set | apply e_par | apply e_asg | apply e_expr | apply e_app | apply e_ret | apply e_retN | apply e_nxt | apply e_flw | apply e_if | apply e_for | apply lp_nil | apply lp_cons | apply lp_n | apply lp_c | apply lp_b | apply lp_r | apply e_setI | apply e_setF | apply e_retM | apply e_pure | apply e_pureT | apply e_eqN | apply e_eqTu | apply e_appT | apply e_sem | apply ok_ok) | ((with_reducible refine c_t ?hb ?_); (case hb => decide)) | ((with_reducible refine c_f ?hb ?_); (case hb => decide)) | ((with_reducible refine c_t ?hb ?_); (case hb => first | with_reducible rfl | with_reducible assumption | (simp <;> omega) | omega)) | ((with_reducible refine c_f ?hb ?_); (case hb => first | with_reducible rfl | with_reducible assumption | (simp <;> omega) | omega)) | with_reducible (apply lc_put) | with_reducible (apply lc_skip)
end L43
end
section
set_option Elab.async false
set_option linter.all false
set_option maxRecDepth 100000
set_option maxHeartbeats 8000000
namespace L43
open PySem PySem.Spec PyProof.Rows L2 Wp
/-! R19: right -/
theorem pow20 : gPow (.int 10) (.int 20) = some (.sh (.int (10 ^ 20))) := by
  simp only [gPow]
  rw [if_pos (by decide +kernel)]
  rfl
theorem pow29 : gPow (.int 10) (.int 29) = some (.sh (.int (10 ^ 29))) := by
  simp only [gPow]
  rw [if_pos (by decide +kernel)]
  rfl
theorem ne_bl (x : Bool) : gNe (.bl x) (.bl x) = some (.sh (.bl false)) := by
  show (some (decide (x = x))).map _ = _
  rw [decide_eq_true rfl]
  rfl
theorem ne_intS (x : Int) : gNe (.int x) (.int x) = some (.sh (.bl false)) := by
  show (some (decide (x = x))).map _ = _
  rw [decide_eq_true rfl]
  rfl
theorem num_loop (x0 x1 x2 x3 x8 x9 x10 : Option Val) (b : Int) (cs : List Int) (hi : Inc cs) (hl : cs.length < 900) (h40 : ∀ x ∈ cs, x ≤ 40) (hb : -100 < b ∧ b < 100) : ∀ (ns : List Int) (x7 : Option Val), (∀ n ∈ ns, -100 < n ∧ n < 100) →
    ∃ y7, loopF (gNm 7) numB (ns.map fun n => .sh (.int n)) [x0, x1, x2, x3, some (.sh (stD b cs)), some (.sh (il (rgI 41 fun i => ht b cs i))), some (.sh (.bl (decide (rise cs = 1)))), x7, x8, x9, x10, none] = some (.ok .next [x0, x1, x2, x3, some (.sh (stD b cs)), some (.sh (il (rgI 41 fun i => ht b cs i))), some (.sh (.bl (decide (rise cs = 1)))), y7, x8, x9, x10, none])
  | [], x7, _ => ⟨x7, rfl⟩
  | n :: ns, x7, h => by
    obtain ⟨y7, ih⟩ := num_loop x0 x1 x2 x3 x8 x9 x10 b cs hi hl h40 hb ns (some (.sh (.int n))) fun m hm => h m (List.mem_cons_of_mem _ hm)
    refine ⟨y7, ?_⟩
    rw [List.map_cons]
    exact lp_cons (w := .next) ⟨rfl⟩ (num_body x0 x1 x2 x3 x8 x9 x10 b cs hi hl h40 n (h n (List.mem_cons_self ..)) hb) (lp_n ih)
theorem F_right (a b c e h : Int) (cs : List Int) (ha : 0 ≤ a) (hc : 0 ≤ c) (hc2 : c < 2 ^ 49) (he : 0 ≤ e) (he2 : e < 2 ^ 60) (hb : -5 < h ∧ h < 9) (hi : Inc cs) (h40 : ∀ x ∈ cs, x ≤ 40) (hl : cs.length ≤ 7) :
    ∃ a' c' X, 0 ≤ a' ∧ c ≤ c' ∧ c' ≤ c + 48 ∧ F__law_right [pu a b c e, .sh (.int h), iv cs] = some (.ok (.sh (.bl true)) [some (pu a' b c' e), some (.sh (.int h)), some X]) := by
  have hl9 : cs.length < 900 := by omega
  obtain ⟨d, a1, c1, d0, d1, q1, q2, q3, hd⟩ := F_draw a b c e 9 ha (by decide) (by decide) hc (by omega) he he2
  obtain ⟨by', a2, c2, hby, q4, q5, q6, ho⟩ := F_one_of a1 b c1 e [0, 3, -4, 10 ^ 20] (by simp) (by decide) q1 (by omega) (by omega) he he2
  obtain ⟨r, a3, c3, r0, r1, q7, q8, q9, hd2⟩ := F_draw a2 b c2 e 9 q4 (by decide) (by decide) (by omega) (by omega) he he2
  refine ⟨a3, c3, iv (cs ++ [99]), q7, by omega, by omega, ?_⟩
  -- the least and the greatest step
  have hL0 : h ≤ ht h cs 40 := by
    have := ht_mono hi.1 h (show (0 : Int) ≤ 40 by decide)
    rwa [ht_zero hi] at this
  have up : ∀ n : Nat, ht h cs n ≤ h + n := by
    intro n
    induction n with
    | zero => rw [show ((0 : Nat) : Int) = 0 from rfl, ht_zero hi]; omega
    | succ n ih =>
      have s1 := ht_step cs h n hi.1
      have s2 := sl_bd cs n
      rw [show ((n + 1 : Nat) : Int) = (n : Int) + 1 by omega, s1]
      omega
  have hL1 : ht h cs 40 ≤ h + 40 := up 40
  obtain ⟨F, hF⟩ : ∃ F, (10 : Int) ^ 29 + r = F := ⟨_, rfl⟩
  have hF40 : 40 ≤ F := by
    have : (40 : Int) ≤ 10 ^ 29 := by decide +kernel
    omega
  have gF : gAdd (.int (10 ^ 29)) (.int r) = some (.sh (.int F)) := by simp only [gAdd, hF]
  have hend := ht_end hi.1 h h40 F hF40
  clear hF
  have g1 : gList (il cs) = some (iv cs) := rfl
  have m1 := F_initO h cs hi hl9
  have m2 := F_initS (h + by') cs hi hl9
  have st := F_steps h cs hi hl9
  obtain ⟨s, hs⟩ := rep2 (b := h) (cs := cs) (by omega) (fun x hx => ⟨by have := hi.2 x hx; omega, by have := h40 x hx; omega⟩) (by omega)
  have n1 := ne_str s
  have fb := F_begin h cs
  have fc := F_corn h cs
  have k1 : gLen (il cs) = some (.sh (.int cs.length)) := by
    show some (Val.sh (.int ((cs.map D.int).length : Int))) = _
    rw [List.length_map]
  have k2 := mod2 cs
  have k3 := eq_int (rise cs) 1
  have vl := fun x0 x1 x2 x3 x5 x6 x7 x8 x9 x10 => val_lc x0 x1 x2 x3 x5 x6 x7 x8 x9 x10 h cs hl9
  have n2 := ne_same (rgI 41 fun i => ht h cs i)
  have n3 := ne_same cs
  have at40 : gSub2 (il (rgI 41 fun i => ht h cs i)) (.int (-1)) = some (.sh (.int (ht h cs 40))) := at_m1 (rgI_last (n := 40) (f := fun i => ht h cs i))
  obtain ⟨y7, nl⟩ := num_loop (some (pu a1 b c1 e)) (some (.sh (.int h))) (some (.ol (((cs ++ [99]).map D.int).map .sh))) (some (.sh (il cs))) none none none h cs hi hl9 h40 (by omega) [h - 1, h, h + 1, ht h cs 40 - 1, ht h cs 40, ht h cs 40 + 5, h + d] none (by simp; omega)
  have sf := F_shift h by' cs hi hl9
  have e1 := F_eq (h + by') (h + by') cs cs
  rw [decide_eq_true rfl, decide_eq_true rfl] at e1
  have e2 := F_eq (h + by') h cs cs
  rw [decide_eq_true (rfl : cs = cs), Bool.and_true, show decide (h + by' = h) = decide (by' = 0) from decide_eq_decide.mpr ⟨fun z => by omega, fun z => by omega⟩] at e2
  have e3 := eq_int by' 0
  have n4 := ne_bl (decide (by' = 0))
  have n5 := ne_intS h
  have vf := F_value h cs F (by omega) hl9
  have hsz : (cs.map D.int).length < sizeLine := by rw [List.length_map, sizeLine_eq]; omega
  have hsz2 : ((cs.map D.int).map Val.sh).length < sizeLine := by rw [List.length_map]; exact hsz
  have n6 := eq_int (ht h cs F) (ht h cs F)
  rw [decide_eq_true rfl] at n6
  have fo1 : D.obj 0 fsS [.int h, .tup (cs.map .int)] = stD h cs := rfl
  have fo2 : D.obj 0 fsS [.int (h + by'), .tup (cs.map .int)] = stD (h + by') cs := rfl
  have ap : ((cs ++ [99]).map D.int).map Val.sh = (cs.map D.int).map .sh ++ [.sh (.int 99)] := by simp
  by_cases hr : rise cs = 1
  · have en := F_end1 h cs hr
    obtain ⟨s2, hs2⟩ := rep1 (o := none) (fun i z => by cases z)
    have n7 := ne_str s2
    rw [decide_eq_true hr] at k3 nl
    rw [hr, show ht h cs 40 + 1 * (F - 40) = ht h cs 40 + F - 40 by omega] at hend
    rw [hend] at n6 vf
    simp only [iv, il, oI, List.map_cons, List.map_nil, ap] at *
    unfold pu at *
    unfold F__law_right
    generalize (rgI 41 fun i => ht h cs i).map D.int = S at *
    generalize cs.map D.int = C at *
    generalize (cs.length : Int) = LN at *
    repeat first | with_reducible (first | exact g1 | exact m1 | exact m2 | exact st | exact hs | exact n1 | exact fb | exact fc | exact k1 | exact k2 | exact k3 | exact vl _ _ _ _ _ _ _ _ _ _ | exact n2 | exact n3 | exact at40 | exact en | exact hs2 | exact n7 | exact hd | exact nl | exact ho | exact pow20 | exact pow29 | exact gF | exact hd2 | exact sf | exact e1 | exact e2 | exact e3 | exact n4 | exact n5 | exact vf | exact n6) | (refine Lf.mk ?_ <;> first | (simp only [sharE, immD, tupD, Option.map_none, Fi.dv, List.drop_nil, List.drop_zero, List.drop_succ_cons, prepAll, prep1, Val.top, Val.d, ds_sh, Val.ds, esc1, escAll, escS, argAll, pass1, arg1, backAll, back1, shAll, shOf, shAll_map, isOl, shList, itemsT, itemsL, gNm, gTp, gsCons, gsNil, wipeE, outF, List.getElem?_cons_zero, List.getElem?_cons_succ, List.getElem?_nil, List.set_cons_zero, List.set_cons_succ, List.headD_cons, List.headD_nil, List.tail_cons, List.tail_nil, List.length_cons, List.length_nil, List.map_cons, List.map_nil, List.replicate_zero, List.replicate_succ, List.cons_append, List.nil_append, List.append_nil, Nat.reduceAdd, Nat.reduceSub, Nat.reduceLT, Nat.reduceLeDiff, Nat.zero_add, Nat.add_zero, Nat.sub_self, Nat.zero_lt_succ, Nat.add_lt_add_iff_right, if_true, if_false, ite_true, ite_false, reduceIte, Bool.false_eq_true, Option.map_some, Option.bind_some, decide_true, decide_false, fo1, fo2] <;> first | exact rfl | decide) | exact rfl | decide) | (refine Gp.mk ?_ <;> first | with_reducible (first | exact g1 | exact m1 | exact m2 | exact st | exact hs | exact n1 | exact fb | exact fc | exact k1 | exact k2 | exact k3 | exact vl _ _ _ _ _ _ _ _ _ _ | exact n2 | exact n3 | exact at40 | exact en | exact hs2 | exact n7 | exact hd | exact nl | exact ho | exact pow20 | exact pow29 | exact gF | exact hd2 | exact sf | exact e1 | exact e2 | exact e3 | exact n4 | exact n5 | exact vf | exact n6) | (simp only [p1, p2, gAdd, Wp.gSub, gMul, gMod, gNeg, gCmp, cmpF, cLt, cLe, cGt, cGe, gEq, gNe, gIsN, gSub2, gIx, gLen, gMx2, gMn2, gInt, gBits, truthD, itemsX, itemsL, itemsT, shItems, shAll, shOf, shAll_map, Val.d, ds_sh, Val.ds, List.map_cons, List.map_nil, List.length_cons, List.length_nil, List.length_map, Option.map_some, Option.bind_some, Option.map_none, Option.bind_none, Bool.not_true, Bool.not_false, if_true, if_false, reduceIte, Bool.false_eq_true, numV, fo1, fo2] <;> exact rfl) | exact rfl) | (refine Sz.mk ?_ <;> first | assumption | with_reducible (first | exact g1 | exact m1 | exact m2 | exact st | exact hs | exact n1 | exact fb | exact fc | exact k1 | exact k2 | exact k3 | exact vl _ _ _ _ _ _ _ _ _ _ | exact n2 | exact n3 | exact at40 | exact en | exact hs2 | exact n7 | exact hd | exact nl | exact ho | exact pow20 | exact pow29 | exact gF | exact hd2 | exact sf | exact e1 | exact e2 | exact e3 | exact n4 | exact n5 | exact vf | exact n6) | (simp [sizeLine_eq]; done) | (simp [sizeLine_eq] <;> omega) | (simp [sizeLine_eq, small62] <;> omega)) | with_reducible (first | apply e_var | apply e_lit | apply e_f1 | apply e_f2 | apply e_fn | apply e_app1 | apply e_app2 | apply e_nil | apply e_cons | apply e_bl | apply e_tru | apply e_notT | apply e_andT | apply e_orT | apply e_andV | apply e_orV | apply e_notV | apply e_ite | apply e_disp | apply e_pt0 | apply e_pt1 | apply e_slice | apply e_lc | apply lc_nil | apply lc_cons | apply e_yes | apply e_seqI | apply e_enum | apply e_rng1 | apply e_rng2 | apply e_callD | apply e_call | apply e_make | apply e_meth | apply e_prop | apply e_attr | apply e_neO | apply e_eqO | apply e_par3 | apply e_seq | apply sq_n | apply sq_r | apply sq_b | apply sq_c | apply e_set | apply e_par | apply e_asg | apply e_expr | apply e_app | apply e_ret | apply e_retN | apply e_nxt | apply e_flw | apply e_if | apply e_for | apply lp_nil | apply lp_cons | apply lp_n | apply lp_c | apply lp_b | apply lp_r | apply e_setI | apply e_setF | apply e_retM | apply e_pure | apply e_pureT | apply e_eqN | apply e_eqTu | apply e_appT | apply e_sem | apply ok_ok) | ((with_reducible refine c_t ?hb ?_); (case hb => decide)) | ((with_reducible refine c_f ?hb ?_); (case hb => decide)) | ((with_reducible refine c_t ?hb ?_); (case hb => first | with_reducible rfl | with_reducible assumption | (simp [fo1, fo2] <;> omega) | omega)) | ((with_reducible refine c_f ?hb ?_); (case hb => first | with_reducible rfl | with_reducible assumption | (simp [fo1, fo2] <;> omega) | omega)) | with_reducible (apply lc_put) | with_reducible (apply lc_skip)
  · have hr0 : rise cs = 0 := by have := rise_bd cs; omega
    have en := F_end0 h cs hi hl9 hr0 40 h40 (by decide)
    obtain ⟨s2, hs2⟩ := rep1 (o := some (ht h cs 40)) (fun i z => by have := Option.some.inj z; omega)
    have n7 := ne_str s2
    rw [decide_eq_false hr] at k3 nl
    rw [hr0, show ht h cs 40 + 0 * (F - 40) = ht h cs 40 by omega] at hend
    rw [hend] at n6 vf
    simp only [iv, il, oI, List.map_cons, List.map_nil, ap] at *
    unfold pu at *
    unfold F__law_right
    generalize (rgI 41 fun i => ht h cs i).map D.int = S at *
    generalize cs.map D.int = C at *
    generalize (cs.length : Int) = LN at *
    repeat first | with_reducible (first | exact g1 | exact m1 | exact m2 | exact st | exact hs | exact n1 | exact fb | exact fc | exact k1 | exact k2 | exact k3 | exact vl _ _ _ _ _ _ _ _ _ _ | exact n2 | exact n3 | exact at40 | exact en | exact hs2 | exact n7 | exact hd | exact nl | exact ho | exact pow20 | exact pow29 | exact gF | exact hd2 | exact sf | exact e1 | exact e2 | exact e3 | exact n4 | exact n5 | exact vf | exact n6) | (refine Lf.mk ?_ <;> first | (simp only [sharE, immD, tupD, Option.map_none, Fi.dv, List.drop_nil, List.drop_zero, List.drop_succ_cons, prepAll, prep1, Val.top, Val.d, ds_sh, Val.ds, esc1, escAll, escS, argAll, pass1, arg1, backAll, back1, shAll, shOf, shAll_map, isOl, shList, itemsT, itemsL, gNm, gTp, gsCons, gsNil, wipeE, outF, List.getElem?_cons_zero, List.getElem?_cons_succ, List.getElem?_nil, List.set_cons_zero, List.set_cons_succ, List.headD_cons, List.headD_nil, List.tail_cons, List.tail_nil, List.length_cons, List.length_nil, List.map_cons, List.map_nil, List.replicate_zero, List.replicate_succ, List.cons_append, List.nil_append, List.append_nil, Nat.reduceAdd, Nat.reduceSub, Nat.reduceLT, Nat.reduceLeDiff, Nat.zero_add, Nat.add_zero, Nat.sub_self, Nat.zero_lt_succ, Nat.add_lt_add_iff_right, if_true, if_false, ite_true, ite_false, reduceIte, Bool.false_eq_true, Option.map_some, Option.bind_some, decide_true, decide_false, fo1, fo2] <;> first | exact rfl | decide) | exact rfl | decide) | (refine Gp.mk ?_ <;> first | with_reducible (first | exact g1 | exact m1 | exact m2 | exact st | exact hs | exact n1 | exact fb | exact fc | exact k1 | exact k2 | exact k3 | exact vl _ _ _ _ _ _ _ _ _ _ | exact n2 | exact n3 | exact at40 | exact en | exact hs2 | exact n7 | exact hd | exact nl | exact ho | exact pow20 | exact pow29 | exact gF | exact hd2 | exact sf | exact e1 | exact e2 | exact e3 | exact n4 | exact n5 | exact vf | exact n6) | (simp only [p1, p2, gAdd, Wp.gSub, gMul, gMod, gNeg, gCmp, cmpF, cLt, cLe, cGt, cGe, gEq, gNe, gIsN, gSub2, gIx, gLen, gMx2, gMn2, gInt, gBits, truthD, itemsX, itemsL, itemsT, shItems, shAll, shOf, shAll_map, Val.d, ds_sh, Val.ds, List.map_cons, List.map_nil, List.length_cons, List.length_nil, List.length_map, Option.map_some, Option.bind_some, Option.map_none, Option.bind_none, Bool.not_true, Bool.not_false, if_true, if_false, reduceIte, Bool.false_eq_true, numV, fo1, fo2] <;> exact rfl) | exact rfl) | (refine Sz.mk ?_ <;> first | assumption | with_reducible (first | exact g1 | exact m1 | exact m2 | exact st | exact hs | exact n1 | exact fb | exact fc | exact k1 | exact k2 | exact k3 | exact vl _ _ _ _ _ _ _ _ _ _ | exact n2 | exact n3 | exact at40 | exact en | exact hs2 | exact n7 | exact hd | exact nl | exact ho | exact pow20 | exact pow29 | exact gF | exact hd2 | exact sf | exact e1 | exact e2 | exact e3 | exact n4 | exact n5 | exact vf | exact n6) | (simp [sizeLine_eq]; done) | (simp [sizeLine_eq] <;> omega) | (simp [sizeLine_eq, small62] <;> omega)) | with_reducible (first | apply e_var | apply e_lit | apply e_f1 | apply e_f2 | apply e_fn | apply e_app1 | apply e_app2 | apply e_nil | apply e_cons | apply e_bl | apply e_tru | apply e_notT | apply e_andT | apply e_orT | apply e_andV | apply e_orV | apply e_notV | apply e_ite | apply e_disp | apply e_pt0 | apply e_pt1 | apply e_slice | apply e_lc | apply lc_nil | apply lc_cons | apply e_yes | apply e_seqI | apply e_enum | apply e_rng1 | apply e_rng2 | apply e_callD | apply e_call | apply e_make | apply e_meth | apply e_prop | apply e_attr | apply e_neO | apply e_eqO | apply e_par3 | apply e_seq | apply sq_n | apply sq_r | apply sq_b | apply sq_c | apply e_set | apply e_par | apply e_asg | apply e_expr | apply e_app | apply e_ret | apply e_retN | apply e_nxt | apply e_flw | apply e_if | apply e_for | apply lp_nil | apply lp_cons | apply lp_n | apply lp_c | apply lp_b | apply lp_r | apply e_setI | apply e_setF | apply e_retM | apply e_pure | apply e_pureT | apply e_eqN | apply e_eqTu | apply e_appT | apply e_sem | apply ok_ok) | ((with_reducible refine c_t ?hb ?_); (case hb => decide)) | ((with_reducible refine c_f ?hb ?_); (case hb => decide)) | ((with_reducible refine c_t ?hb ?_); (case hb => first | with_reducible rfl | with_reducible assumption | (simp [fo1, fo2] <;> omega) | omega)) | ((with_reducible refine c_f ?hb ?_); (case hb => first | with_reducible rfl | with_reducible assumption | (simp [fo1, fo2] <;> omega) | omega)) | with_reducible (apply lc_put) | with_reducible (apply lc_skip)
end L43
end
section
set_option Elab.async false
set_option linter.all false
set_option maxRecDepth 100000
set_option maxHeartbeats 4000000
namespace L43
open PySem PySem.Spec PyProof.Rows L2 Wp
/-! purses -/
theorem pow18 : gPow (.int 10) (.int 18) = some (.sh (.int 1000000000000000000)) := by
  simp only [gPow]
  rw [if_pos (by decide +kernel)]
  rfl
theorem pow60 : gPow (.int 10) (.int 60) = some (.sh (.int (10 ^ 60))) := by
  simp only [gPow]
  rw [if_pos (by decide +kernel)]
  rfl
theorem pow480 : gPow (.int (10 ^ 60)) (.int 8) = some (.sh (.int ((10 ^ 60) ^ 8))) := by
  simp only [gPow]
  rw [if_pos (by decide +kernel)]
  rfl
theorem sum_one (ns : List Int) (k : Nat) : ∃ zs : List Int, gSl (some (k : Int)) (some ((k : Int) + 1)) (.lst (ns.map .int)) = some (.ol ((zs.map D.int).map .sh)) := by
  refine ⟨(ns.drop (HT.sIx ns.length 0 (some (k : Int)))).take (HT.sIx ns.length ns.length (some ((k : Int) + 1)) - HT.sIx ns.length 0 (some (k : Int))), ?_⟩
  simp only [gSl]
  unfold Wp.cutD
  rw [← List.map_drop, ← List.map_take, List.length_map]
theorem sum_val (zs : List Int) : gSum (.lst (zs.map D.int)) = some (.sh (.int zs.sum)) := by
  simp only [gSum, intsOf_map, Option.map_some]
theorem F_purse (ns : List Int) (k : Nat) : ∃ a b, 0 ≤ a ∧ F__law_purse [.sh (.lst (ns.map .int)), .sh (.int k)] = some (.ok (pu a b 0 k) [some (.sh (.lst (ns.map .int))), some (.sh (.int k))]) := by
  obtain ⟨zs, h1⟩ := sum_one ns k
  have h2 := sum_val zs
  generalize zs.sum = s at h2
  have hm : gMod (.int (max (s - 1000000000000000000) 0)) (.int ((10 ^ 60) ^ 8)) = some (.sh (.int ((max (s - 1000000000000000000) 0).fmod ((10 ^ 60) ^ 8)))) := by
    simp only [gMod]
    rw [if_neg (by decide +kernel)]
  have hm2 : gMod (.int s) (.int 2147483629) = some (.sh (.int (s.fmod 2147483629))) := by
    simp only [gMod]
    rw [if_neg (by decide +kernel)]
  refine ⟨(max (s - 1000000000000000000) 0).fmod ((10 ^ 60) ^ 8), s.fmod 2147483629, Int.fmod_nonneg_of_pos _ (by decide +kernel), ?_⟩
  generalize (max (s - 1000000000000000000) 0).fmod ((10 ^ 60) ^ 8) = A at *
  generalize s.fmod 2147483629 = B at *
  unfold F__law_purse pu
  repeat first | with_reducible (first | exact h1 | exact h2 | exact pow18 | exact pow60 | exact pow480 | exact hm | exact hm2) | (refine Lf.mk ?_ <;> first | (simp only [sharE, immD, tupD, Option.map_none, Fi.dv, List.drop_nil, List.drop_zero, List.drop_succ_cons, prepAll, prep1, Val.top, Val.d, ds_sh, Val.ds, esc1, escAll, escS, argAll, pass1, arg1, backAll, back1, shAll, shOf, shAll_map, isOl, shList, itemsT, itemsL, gNm, gTp, gsCons, gsNil, wipeE, outF, List.getElem?_cons_zero, List.getElem?_cons_succ, List.getElem?_nil, List.set_cons_zero, List.set_cons_succ, List.headD_cons, List.headD_nil, List.tail_cons, List.tail_nil, List.length_cons, List.length_nil, List.map_cons, List.map_nil, List.replicate_zero, List.replicate_succ, List.cons_append, List.nil_append, List.append_nil, Nat.reduceAdd, Nat.reduceSub, Nat.reduceLT, Nat.reduceLeDiff, Nat.zero_add, Nat.add_zero, Nat.sub_self, Nat.zero_lt_succ, Nat.add_lt_add_iff_right, if_true, if_false, ite_true, ite_false, reduceIte, Bool.false_eq_true, Option.map_some, Option.bind_some, decide_true, decide_false] <;> first | exact rfl | decide) | exact rfl | decide) | (refine Gp.mk ?_ <;> first | with_reducible (first | exact h1 | exact h2 | exact pow18 | exact pow60 | exact pow480 | exact hm | exact hm2) | (simp only [p1, p2, gAdd, Wp.gSub, gMul, gMod, gNeg, gCmp, cmpF, cLt, cLe, cGt, cGe, gEq, gNe, gIsN, gSub2, gIx, gLen, gMx2, gMn2, gInt, gBits, truthD, itemsX, itemsL, itemsT, shItems, shAll, shOf, shAll_map, Val.d, ds_sh, Val.ds, List.map_cons, List.map_nil, List.length_cons, List.length_nil, List.length_map, Option.map_some, Option.bind_some, Option.map_none, Option.bind_none, Bool.not_true, Bool.not_false, if_true, if_false, reduceIte, Bool.false_eq_true, numV] <;> exact rfl) | exact rfl) | (refine Sz.mk ?_ <;> first | assumption | with_reducible (first | exact h1 | exact h2 | exact pow18 | exact pow60 | exact pow480 | exact hm | exact hm2) | (simp [sizeLine_eq]; done) | (simp [sizeLine_eq] <;> omega) | (simp [sizeLine_eq, small62] <;> omega)) | with_reducible (first | apply e_var | apply e_lit | apply e_f1 | apply e_f2 | apply e_fn | apply e_app1 | apply e_app2 | apply e_nil | apply e_cons | apply e_bl | apply e_tru | apply e_notT | apply e_andT | apply e_orT | apply e_andV | apply e_orV | apply e_notV | apply e_ite | apply e_disp | apply e_pt0 | apply e_pt1 | apply e_slice | apply e_lc | apply lc_nil | apply lc_cons | apply e_yes | apply e_seqI | apply e_enum | apply e_rng1 | apply e_rng2 | apply e_callD | apply e_call | apply e_make | apply e_meth | apply e_prop | apply e_attr | apply e_neO | apply e_eqO | apply e_par3 | apply e_seq | apply sq_n | apply sq_r | apply sq_b | apply sq_c | apply e_set | apply e_par | apply e_asg | apply e_expr | apply e_app | apply e_ret | apply e_retN | apply e_nxt | apply e_flw | apply e_if | apply e_for | apply lp_nil | apply lp_cons | apply lp_n | apply lp_c | apply lp_b | apply lp_r | apply e_setI | apply e_setF | apply e_retM | apply e_pure | apply e_pureT | apply e_eqN | apply e_eqTu | apply e_appT | apply e_sem | apply ok_ok) | ((with_reducible refine c_t ?hb ?_); (case hb => decide)) | ((with_reducible refine c_f ?hb ?_); (case hb => decide)) | ((with_reducible refine c_t ?hb ?_); (case hb => first | with_reducible rfl | with_reducible assumption | (simp <;> omega) | omega)) | ((with_reducible refine c_f ?hb ?_); (case hb => first | with_reducible rfl | with_reducible assumption | (simp <;> omega) | omega)) | with_reducible (apply lc_put) | with_reducible (apply lc_skip)
theorem F_purses (ns : List Int) : ∃ ps : List Val, (∀ p ∈ ps, ∃ a b e, 0 ≤ a ∧ 0 ≤ e ∧ e < 3 ∧ p = pu a b 0 e) ∧ ps.length ≤ 3 ∧ F__law_purses [.sh (.lst (ns.map .int)), .sh (.int 3)] = some (.ok (.ol ps) [some (.sh (.lst (ns.map .int))), some (.sh (.int 3))]) := by
  obtain ⟨a0, b0, k0, h0⟩ := F_purse ns 0
  obtain ⟨a1, b1, k1, h1⟩ := F_purse ns 1
  obtain ⟨a2, b2, k2, h2⟩ := F_purse ns 2
  obtain ⟨m, hm, hm3⟩ : ∃ m : Nat, max (1 : Int) (min 3 ns.length) = m ∧ (m = 1 ∨ m = 2 ∨ m = 3) := ⟨(max (1 : Int) (min 3 ns.length)).toNat, by omega, by omega⟩
  have hmx : gMx2 (.int 1) (.int (min 3 ns.length)) = some (.sh (.int m)) := by
    simp only [gMx2, hm]
  have e1 : ((0 : Nat) : Int) = 0 := rfl
  have e2 : ((1 : Nat) : Int) = 1 := rfl
  have e3 : ((2 : Nat) : Int) = 2 := rfl
  rw [e1] at h0
  rw [e2] at h1
  rw [e3] at h2
  unfold F__law_purses
  rcases hm3 with rfl | rfl | rfl
  · refine ⟨[pu a0 b0 0 0], ?_, by simp, ?_⟩
    · intro p hp
      simp only [List.mem_cons, List.not_mem_nil, or_false] at hp
      exact ⟨a0, b0, 0, k0, by omega, by omega, hp⟩
    · have hr : rngV 0 ((1 : Nat) : Int).toNat = [.sh (.int 0)] := rfl
      have hi : fRng1 (fCons (fn (fCons (fLit (.int 1)) (fCons (fn (fCons (fVar 1) (fCons (fn (fCons (fVar 0) fNil) (p1 gLen)) fNil)) (p2 gMn2)) fNil)) (p2 gMx2)) fNil) [some (.sh (.lst (ns.map .int))), some (.sh (.int 3)), none] = some (.ok [.sh (.int 0)] [some (.sh (.lst (ns.map .int))), some (.sh (.int 3)), none]) := by
        rw [← hr]
        repeat first | with_reducible (first | exact hmx) | (refine Lf.mk ?_ <;> first | (simp only [sharE, immD, tupD, Option.map_none, Fi.dv, List.drop_nil, List.drop_zero, List.drop_succ_cons, prepAll, prep1, Val.top, Val.d, ds_sh, Val.ds, esc1, escAll, escS, argAll, pass1, arg1, backAll, back1, shAll, shOf, shAll_map, isOl, shList, itemsT, itemsL, gNm, gTp, gsCons, gsNil, wipeE, outF, List.getElem?_cons_zero, List.getElem?_cons_succ, List.getElem?_nil, List.set_cons_zero, List.set_cons_succ, List.headD_cons, List.headD_nil, List.tail_cons, List.tail_nil, List.length_cons, List.length_nil, List.map_cons, List.map_nil, List.replicate_zero, List.replicate_succ, List.cons_append, List.nil_append, List.append_nil, Nat.reduceAdd, Nat.reduceSub, Nat.reduceLT, Nat.reduceLeDiff, Nat.zero_add, Nat.add_zero, Nat.sub_self, Nat.zero_lt_succ, Nat.add_lt_add_iff_right, if_true, if_false, ite_true, ite_false, reduceIte, Bool.false_eq_true, Option.map_some, Option.bind_some, decide_true, decide_false] <;> first | exact rfl | decide) | exact rfl | decide) | (refine Gp.mk ?_ <;> first | with_reducible (first | exact hmx) | (simp only [p1, p2, gAdd, Wp.gSub, gMul, gMod, gNeg, gCmp, cmpF, cLt, cLe, cGt, cGe, gEq, gNe, gIsN, gSub2, gIx, gLen, gMx2, gMn2, gInt, gBits, truthD, itemsX, itemsL, itemsT, shItems, shAll, shOf, shAll_map, Val.d, ds_sh, Val.ds, List.map_cons, List.map_nil, List.length_cons, List.length_nil, List.length_map, Option.map_some, Option.bind_some, Option.map_none, Option.bind_none, Bool.not_true, Bool.not_false, if_true, if_false, reduceIte, Bool.false_eq_true, numV] <;> exact rfl) | exact rfl) | (refine Sz.mk ?_ <;> first | assumption | with_reducible (first | exact hmx) | (simp [sizeLine_eq]; done) | (simp [sizeLine_eq] <;> omega) | (simp [sizeLine_eq, small62] <;> omega)) | with_reducible (first | apply e_var | apply e_lit | apply e_f1 | apply e_f2 | apply e_fn | apply e_app1 | apply e_app2 | apply e_nil | apply e_cons | apply e_bl | apply e_tru | apply e_notT | apply e_andT | apply e_orT | apply e_andV | apply e_orV | apply e_notV | apply e_ite | apply e_disp | apply e_pt0 | apply e_pt1 | apply e_slice | apply e_lc | apply lc_nil | apply lc_cons | apply e_yes | apply e_seqI | apply e_enum | apply e_rng1 | apply e_rng2 | apply e_callD | apply e_call | apply e_make | apply e_meth | apply e_prop | apply e_attr | apply e_neO | apply e_eqO | apply e_par3 | apply e_seq | apply sq_n | apply sq_r | apply sq_b | apply sq_c | apply e_set | apply e_par | apply e_asg | apply e_expr | apply e_app | apply e_ret | apply e_retN | apply e_nxt | apply e_flw | apply e_if | apply e_for | apply lp_nil | apply lp_cons | apply lp_n | apply lp_c | apply lp_b | apply lp_r | apply e_setI | apply e_setF | apply e_retM | apply e_pure | apply e_pureT | apply e_eqN | apply e_eqTu | apply e_appT | apply e_sem | apply ok_ok) | ((with_reducible refine c_t ?hb ?_); (case hb => decide)) | ((with_reducible refine c_f ?hb ?_); (case hb => decide)) | ((with_reducible refine c_t ?hb ?_); (case hb => first | with_reducible rfl | with_reducible assumption | (simp <;> omega) | omega)) | ((with_reducible refine c_f ?hb ?_); (case hb => first | with_reducible rfl | with_reducible assumption | (simp <;> omega) | omega)) | with_reducible (apply lc_put) | with_reducible (apply lc_skip)
      repeat first | with_reducible (first | exact hi | exact h0) | (refine Lf.mk ?_ <;> first | (simp only [sharE, immD, tupD, Option.map_none, Fi.dv, List.drop_nil, List.drop_zero, List.drop_succ_cons, prepAll, prep1, Val.top, Val.d, ds_sh, Val.ds, esc1, escAll, escS, argAll, pass1, arg1, backAll, back1, shAll, shOf, shAll_map, isOl, shList, itemsT, itemsL, gNm, gTp, gsCons, gsNil, wipeE, outF, List.getElem?_cons_zero, List.getElem?_cons_succ, List.getElem?_nil, List.set_cons_zero, List.set_cons_succ, List.headD_cons, List.headD_nil, List.tail_cons, List.tail_nil, List.length_cons, List.length_nil, List.map_cons, List.map_nil, List.replicate_zero, List.replicate_succ, List.cons_append, List.nil_append, List.append_nil, Nat.reduceAdd, Nat.reduceSub, Nat.reduceLT, Nat.reduceLeDiff, Nat.zero_add, Nat.add_zero, Nat.sub_self, Nat.zero_lt_succ, Nat.add_lt_add_iff_right, if_true, if_false, ite_true, ite_false, reduceIte, Bool.false_eq_true, Option.map_some, Option.bind_some, decide_true, decide_false] <;> first | exact rfl | decide) | exact rfl | decide) | (refine Gp.mk ?_ <;> first | with_reducible (first | exact hi | exact h0) | (simp only [p1, p2, gAdd, Wp.gSub, gMul, gMod, gNeg, gCmp, cmpF, cLt, cLe, cGt, cGe, gEq, gNe, gIsN, gSub2, gIx, gLen, gMx2, gMn2, gInt, gBits, truthD, itemsX, itemsL, itemsT, shItems, shAll, shOf, shAll_map, Val.d, ds_sh, Val.ds, List.map_cons, List.map_nil, List.length_cons, List.length_nil, List.length_map, Option.map_some, Option.bind_some, Option.map_none, Option.bind_none, Bool.not_true, Bool.not_false, if_true, if_false, reduceIte, Bool.false_eq_true, numV] <;> exact rfl) | exact rfl) | (refine Sz.mk ?_ <;> first | assumption | with_reducible (first | exact hi | exact h0) | (simp [sizeLine_eq]; done) | (simp [sizeLine_eq] <;> omega) | (simp [sizeLine_eq, small62] <;> omega)) | with_reducible (first | apply e_var | apply e_lit | apply e_f1 | apply e_f2 | apply e_fn | apply e_app1 | apply e_app2 | apply e_nil | apply e_cons | apply e_bl | apply e_tru | apply e_notT | apply e_andT | apply e_orT | apply e_andV | apply e_orV | apply e_notV | apply e_ite | apply e_disp | apply e_pt0 | apply e_pt1 | apply e_slice | apply e_lc | apply lc_nil | apply lc_cons | apply e_yes | apply e_seqI | apply e_enum | apply e_rng1 | apply e_rng2 | apply e_callD | apply e_call | apply e_make | apply e_meth | apply e_prop | apply e_attr | apply e_neO | apply e_eqO | apply e_par3 | apply e_seq | apply sq_n | apply sq_r | apply sq_b | apply sq_c | apply e_set | apply e_par | apply e_asg | apply e_expr | apply e_app | apply e_ret | apply e_retN | apply e_nxt | apply e_flw | apply e_if | apply e_for | apply lp_nil | apply lp_cons | apply lp_n | apply lp_c | apply lp_b | apply lp_r | apply e_setI | apply e_setF | apply e_retM | apply e_pure | apply e_pureT | apply e_eqN | apply e_eqTu | apply e_appT | apply e_sem | apply ok_ok) | ((with_reducible refine c_t ?hb ?_); (case hb => decide)) | ((with_reducible refine c_f ?hb ?_); (case hb => decide)) | ((with_reducible refine c_t ?hb ?_); (case hb => first | with_reducible rfl | with_reducible assumption | (simp <;> omega) | omega)) | ((with_reducible refine c_f ?hb ?_); (case hb => first | with_reducible rfl | with_reducible assumption | (simp <;> omega) | omega)) | with_reducible (apply lc_put) | with_reducible (apply lc_skip)
  · refine ⟨[pu a0 b0 0 0, pu a1 b1 0 1], ?_, by simp, ?_⟩
    · intro p hp
      simp only [List.mem_cons, List.not_mem_nil, or_false] at hp
      rcases hp with rfl | rfl
      · exact ⟨a0, b0, 0, k0, by omega, by omega, rfl⟩
      · exact ⟨a1, b1, 1, k1, by omega, by omega, rfl⟩
    · have hr : rngV 0 ((2 : Nat) : Int).toNat = [.sh (.int 0), .sh (.int 1)] := rfl
      have hi : fRng1 (fCons (fn (fCons (fLit (.int 1)) (fCons (fn (fCons (fVar 1) (fCons (fn (fCons (fVar 0) fNil) (p1 gLen)) fNil)) (p2 gMn2)) fNil)) (p2 gMx2)) fNil) [some (.sh (.lst (ns.map .int))), some (.sh (.int 3)), none] = some (.ok [.sh (.int 0), .sh (.int 1)] [some (.sh (.lst (ns.map .int))), some (.sh (.int 3)), none]) := by
        rw [← hr]
        repeat first | with_reducible (first | exact hmx) | (refine Lf.mk ?_ <;> first | (simp only [sharE, immD, tupD, Option.map_none, Fi.dv, List.drop_nil, List.drop_zero, List.drop_succ_cons, prepAll, prep1, Val.top, Val.d, ds_sh, Val.ds, esc1, escAll, escS, argAll, pass1, arg1, backAll, back1, shAll, shOf, shAll_map, isOl, shList, itemsT, itemsL, gNm, gTp, gsCons, gsNil, wipeE, outF, List.getElem?_cons_zero, List.getElem?_cons_succ, List.getElem?_nil, List.set_cons_zero, List.set_cons_succ, List.headD_cons, List.headD_nil, List.tail_cons, List.tail_nil, List.length_cons, List.length_nil, List.map_cons, List.map_nil, List.replicate_zero, List.replicate_succ, List.cons_append, List.nil_append, List.append_nil, Nat.reduceAdd, Nat.reduceSub, Nat.reduceLT, Nat.reduceLeDiff, Nat.zero_add, Nat.add_zero, Nat.sub_self, Nat.zero_lt_succ, Nat.add_lt_add_iff_right, if_true, if_false, ite_true, ite_false, reduceIte, Bool.false_eq_true, Option.map_some, Option.bind_some, decide_true, decide_false] <;> first | exact rfl | decide) | exact rfl | decide) | (refine Gp.mk ?_ <;> first | with_reducible (first | exact hmx) | (simp only [p1, p2, gAdd, Wp.gSub, gMul, gMod, gNeg, gCmp, cmpF, cLt, cLe, cGt, cGe, gEq, gNe, gIsN, gSub2, gIx, gLen, gMx2, gMn2, gInt, gBits, truthD, itemsX, itemsL, itemsT, shItems, shAll, shOf, shAll_map, Val.d, ds_sh, Val.ds, List.map_cons, List.map_nil, List.length_cons, List.length_nil, List.length_map, Option.map_some, Option.bind_some, Option.map_none, Option.bind_none, Bool.not_true, Bool.not_false, if_true, if_false, reduceIte, Bool.false_eq_true, numV] <;> exact rfl) | exact rfl) | (refine Sz.mk ?_ <;> first | assumption | with_reducible (first | exact hmx) | (simp [sizeLine_eq]; done) | (simp [sizeLine_eq] <;> omega) | (simp [sizeLine_eq, small62] <;> omega)) | with_reducible (first | apply e_var | apply e_lit | apply e_f1 | apply e_f2 | apply e_fn | apply e_app1 | apply e_app2 | apply e_nil | apply e_cons | apply e_bl | apply e_tru | apply e_notT | apply e_andT | apply e_orT | apply e_andV | apply e_orV | apply e_notV | apply e_ite | apply e_disp | apply e_pt0 | apply e_pt1 | apply e_slice | apply e_lc | apply lc_nil | apply lc_cons | apply e_yes | apply e_seqI | apply e_enum | apply e_rng1 | apply e_rng2 | apply e_callD | apply e_call | apply e_make | apply e_meth | apply e_prop | apply e_attr | apply e_neO | apply e_eqO | apply e_par3 | apply e_seq | apply sq_n | apply sq_r | apply sq_b | apply sq_c | apply e_set | apply e_par | apply e_asg | apply e_expr | apply e_app | apply e_ret | apply e_retN | apply e_nxt | apply e_flw | apply e_if | apply e_for | apply lp_nil | apply lp_cons | apply lp_n | apply lp_c | apply lp_b | apply lp_r | apply e_setI | apply e_setF | apply e_retM | apply e_pure | apply e_pureT | apply e_eqN | apply e_eqTu | apply e_appT | apply e_sem | apply ok_ok) | ((with_reducible refine c_t ?hb ?_); (case hb => decide)) | ((with_reducible refine c_f ?hb ?_); (case hb => decide)) | ((with_reducible refine c_t ?hb ?_); (case hb => first | with_reducible rfl | with_reducible assumption | (simp <;> omega) | omega)) | ((with_reducible refine c_f ?hb ?_); (case hb => first | with_reducible rfl | with_reducible assumption | (simp <;> omega) | omega)) | with_reducible (apply lc_put) | with_reducible (apply lc_skip)
      repeat first | with_reducible (first | exact hi | exact h0 | exact h1) | (refine Lf.mk ?_ <;> first | (simp only [sharE, immD, tupD, Option.map_none, Fi.dv, List.drop_nil, List.drop_zero, List.drop_succ_cons, prepAll, prep1, Val.top, Val.d, ds_sh, Val.ds, esc1, escAll, escS, argAll, pass1, arg1, backAll, back1, shAll, shOf, shAll_map, isOl, shList, itemsT, itemsL, gNm, gTp, gsCons, gsNil, wipeE, outF, List.getElem?_cons_zero, List.getElem?_cons_succ, List.getElem?_nil, List.set_cons_zero, List.set_cons_succ, List.headD_cons, List.headD_nil, List.tail_cons, List.tail_nil, List.length_cons, List.length_nil, List.map_cons, List.map_nil, List.replicate_zero, List.replicate_succ, List.cons_append, List.nil_append, List.append_nil, Nat.reduceAdd, Nat.reduceSub, Nat.reduceLT, Nat.reduceLeDiff, Nat.zero_add, Nat.add_zero, Nat.sub_self, Nat.zero_lt_succ, Nat.add_lt_add_iff_right, if_true, if_false, ite_true, ite_false, reduceIte, Bool.false_eq_true, Option.map_some, Option.bind_some, decide_true, decide_false] <;> first | exact rfl | decide) | exact rfl | decide) | (refine Gp.mk ?_ <;> first | with_reducible (first | exact hi | exact h0 | exact h1) | (simp only [p1, p2, gAdd, Wp.gSub, gMul, gMod, gNeg, gCmp, cmpF, cLt, cLe, cGt, cGe, gEq, gNe, gIsN, gSub2, gIx, gLen, gMx2, gMn2, gInt, gBits, truthD, itemsX, itemsL, itemsT, shItems, shAll, shOf, shAll_map, Val.d, ds_sh, Val.ds, List.map_cons, List.map_nil, List.length_cons, List.length_nil, List.length_map, Option.map_some, Option.bind_some, Option.map_none, Option.bind_none, Bool.not_true, Bool.not_false, if_true, if_false, reduceIte, Bool.false_eq_true, numV] <;> exact rfl) | exact rfl) | (refine Sz.mk ?_ <;> first | assumption | with_reducible (first | exact hi | exact h0 | exact h1) | (simp [sizeLine_eq]; done) | (simp [sizeLine_eq] <;> omega) | (simp [sizeLine_eq, small62] <;> omega)) | with_reducible (first | apply e_var | apply e_lit | apply e_f1 | apply e_f2 | apply e_fn | apply e_app1 | apply e_app2 | apply e_nil | apply e_cons | apply e_bl | apply e_tru | apply e_notT | apply e_andT | apply e_orT | apply e_andV | apply e_orV | apply e_notV | apply e_ite | apply e_disp | apply e_pt0 | apply e_pt1 | apply e_slice | apply e_lc | apply lc_nil | apply lc_cons | apply e_yes | apply e_seqI | apply e_enum | apply e_rng1 | apply e_rng2 | apply e_callD | apply e_call | apply e_make | apply e_meth | apply e_prop | apply e_attr | apply e_neO | apply e_eqO | apply e_par3 | apply e_seq | apply sq_n | apply sq_r | apply sq_b | apply sq_c | apply e_set | apply e_par | apply e_asg | apply e_expr | apply e_app | apply e_ret | apply e_retN | apply e_nxt | apply e_flw | apply e_if | apply e_for | apply lp_nil | apply lp_cons | apply lp_n | apply lp_c | apply lp_b | apply lp_r | apply e_setI | apply e_setF | apply e_retM | apply e_pure | apply e_pureT | apply e_eqN | apply e_eqTu | apply e_appT | apply e_sem | apply ok_ok) | ((with_reducible refine c_t ?hb ?_); (case hb => decide)) | ((with_reducible refine c_f ?hb ?_); (case hb => decide)) | ((with_reducible refine c_t ?hb ?_); (case hb => first | with_reducible rfl | with_reducible assumption | (simp <;> omega) | omega)) | ((with_reducible refine c_f ?hb ?_); (case hb => first | with_reducible rfl | with_reducible assumption | (simp <;> omega) | omega)) | with_reducible (apply lc_put) | with_reducible (apply lc_skip)
  · refine ⟨[pu a0 b0 0 0, pu a1 b1 0 1, pu a2 b2 0 2], ?_, by simp, ?_⟩
    · intro p hp
      simp only [List.mem_cons, List.not_mem_nil, or_false] at hp
      rcases hp with rfl | rfl | rfl
      · exact ⟨a0, b0, 0, k0, by omega, by omega, rfl⟩
      · exact ⟨a1, b1, 1, k1, by omega, by omega, rfl⟩
      · exact ⟨a2, b2, 2, k2, by omega, by omega, rfl⟩
    · have hr : rngV 0 ((3 : Nat) : Int).toNat = [.sh (.int 0), .sh (.int 1), .sh (.int 2)] := rfl
      have hi : fRng1 (fCons (fn (fCons (fLit (.int 1)) (fCons (fn (fCons (fVar 1) (fCons (fn (fCons (fVar 0) fNil) (p1 gLen)) fNil)) (p2 gMn2)) fNil)) (p2 gMx2)) fNil) [some (.sh (.lst (ns.map .int))), some (.sh (.int 3)), none] = some (.ok [.sh (.int 0), .sh (.int 1), .sh (.int 2)] [some (.sh (.lst (ns.map .int))), some (.sh (.int 3)), none]) := by
        rw [← hr]
        repeat first | with_reducible (first | exact hmx) | (refine Lf.mk ?_ <;> first | (simp only [sharE, immD, tupD, Option.map_none, Fi.dv, List.drop_nil, List.drop_zero, List.drop_succ_cons, prepAll, prep1, Val.top, Val.d, ds_sh, Val.ds, esc1, escAll, escS, argAll, pass1, arg1, backAll, back1, shAll, shOf, shAll_map, isOl, shList, itemsT, itemsL, gNm, gTp, gsCons, gsNil, wipeE, outF, List.getElem?_cons_zero, List.getElem?_cons_succ, List.getElem?_nil, List.set_cons_zero, List.set_cons_succ, List.headD_cons, List.headD_nil, List.tail_cons, List.tail_nil, List.length_cons, List.length_nil, List.map_cons, List.map_nil, List.replicate_zero, List.replicate_succ, List.cons_append, List.nil_append, List.append_nil, Nat.reduceAdd, Nat.reduceSub, Nat.reduceLT, Nat.reduceLeDiff, Nat.zero_add, Nat.add_zero, Nat.sub_self, Nat.zero_lt_succ, Nat.add_lt_add_iff_right, if_true, if_false, ite_true, ite_false, reduceIte, Bool.false_eq_true, Option.map_some, Option.bind_some, decide_true, decide_false] <;> first | exact rfl | decide) | exact rfl | decide) | (refine Gp.mk ?_ <;> first | with_reducible (first | exact hmx) | (simp only [p1, p2, gAdd, Wp.gSub, gMul, gMod, gNeg, gCmp, cmpF, cLt, cLe, cGt, cGe, gEq, gNe, gIsN, gSub2, gIx, gLen, gMx2, gMn2, gInt, gBits, truthD, itemsX, itemsL, itemsT, shItems, shAll, shOf, shAll_map, Val.d, ds_sh, Val.ds, List.map_cons, List.map_nil, List.length_cons, List.length_nil, List.length_map, Option.map_some, Option.bind_some, Option.map_none, Option.bind_none, Bool.not_true, Bool.not_false, if_true, if_false, reduceIte, Bool.false_eq_true, numV] <;> exact rfl) | exact rfl) | (refine Sz.mk ?_ <;> first | assumption | with_reducible (first | exact hmx) | (simp [sizeLine_eq]; done) | (simp [sizeLine_eq] <;> omega) | (simp [sizeLine_eq, small62] <;> omega)) | with_reducible (first | apply e_var | apply e_lit | apply e_f1 | apply e_f2 | apply e_fn | apply e_app1 | apply e_app2 | apply e_nil | apply e_cons | apply e_bl | apply e_tru | apply e_notT | apply e_andT | apply e_orT | apply e_andV | apply e_orV | apply e_notV | apply e_ite | apply e_disp | apply e_pt0 | apply e_pt1 | apply e_slice | apply e_lc | apply lc_nil | apply lc_cons | apply e_yes | apply e_seqI | apply e_enum | apply e_rng1 | apply e_rng2 | apply e_callD | apply e_call | apply e_make | apply e_meth | apply e_prop | apply e_attr | apply e_neO | apply e_eqO | apply e_par3 | apply e_seq | apply sq_n | apply sq_r | apply sq_b | apply sq_c | apply e_set | apply e_par | apply e_asg | apply e_expr | apply e_app | apply e_ret | apply e_retN | apply e_nxt | apply e_flw | apply e_if | apply e_for | apply lp_nil | apply lp_cons | apply lp_n | apply lp_c | apply lp_b | apply lp_r | apply e_setI | apply e_setF | apply e_retM | apply e_pure | apply e_pureT | apply e_eqN | apply e_eqTu | apply e_appT | apply e_sem | apply ok_ok) | ((with_reducible refine c_t ?hb ?_); (case hb => decide)) | ((with_reducible refine c_f ?hb ?_); (case hb => decide)) | ((with_reducible refine c_t ?hb ?_); (case hb => first | with_reducible rfl | with_reducible assumption | (simp <;> omega) | omega)) | ((with_reducible refine c_f ?hb ?_); (case hb => first | with_reducible rfl | with_reducible assumption | (simp <;> omega) | omega)) | with_reducible (apply lc_put) | with_reducible (apply lc_skip)
      repeat first | with_reducible (first | exact hi | exact h0 | exact h1 | exact h2) | (refine Lf.mk ?_ <;> first | (simp only [sharE, immD, tupD, Option.map_none, Fi.dv, List.drop_nil, List.drop_zero, List.drop_succ_cons, prepAll, prep1, Val.top, Val.d, ds_sh, Val.ds, esc1, escAll, escS, argAll, pass1, arg1, backAll, back1, shAll, shOf, shAll_map, isOl, shList, itemsT, itemsL, gNm, gTp, gsCons, gsNil, wipeE, outF, List.getElem?_cons_zero, List.getElem?_cons_succ, List.getElem?_nil, List.set_cons_zero, List.set_cons_succ, List.headD_cons, List.headD_nil, List.tail_cons, List.tail_nil, List.length_cons, List.length_nil, List.map_cons, List.map_nil, List.replicate_zero, List.replicate_succ, List.cons_append, List.nil_append, List.append_nil, Nat.reduceAdd, Nat.reduceSub, Nat.reduceLT, Nat.reduceLeDiff, Nat.zero_add, Nat.add_zero, Nat.sub_self, Nat.zero_lt_succ, Nat.add_lt_add_iff_right, if_true, if_false, ite_true, ite_false, reduceIte, Bool.false_eq_true, Option.map_some, Option.bind_some, decide_true, decide_false] <;> first | exact rfl | decide) | exact rfl | decide) | (refine Gp.mk ?_ <;> first | with_reducible (first | exact hi | exact h0 | exact h1 | exact h2) | (simp only [p1, p2, gAdd, Wp.gSub, gMul, gMod, gNeg, gCmp, cmpF, cLt, cLe, cGt, cGe, gEq, gNe, gIsN, gSub2, gIx, gLen, gMx2, gMn2, gInt, gBits, truthD, itemsX, itemsL, itemsT, shItems, shAll, shOf, shAll_map, Val.d, ds_sh, Val.ds, List.map_cons, List.map_nil, List.length_cons, List.length_nil, List.length_map, Option.map_some, Option.bind_some, Option.map_none, Option.bind_none, Bool.not_true, Bool.not_false, if_true, if_false, reduceIte, Bool.false_eq_true, numV] <;> exact rfl) | exact rfl) | (refine Sz.mk ?_ <;> first | assumption | with_reducible (first | exact hi | exact h0 | exact h1 | exact h2) | (simp [sizeLine_eq]; done) | (simp [sizeLine_eq] <;> omega) | (simp [sizeLine_eq, small62] <;> omega)) | with_reducible (first | apply e_var | apply e_lit | apply e_f1 | apply e_f2 | apply e_fn | apply e_app1 | apply e_app2 | apply e_nil | apply e_cons | apply e_bl | apply e_tru | apply e_notT | apply e_andT | apply e_orT | apply e_andV | apply e_orV | apply e_notV | apply e_ite | apply e_disp | apply e_pt0 | apply e_pt1 | apply e_slice | apply e_lc | apply lc_nil | apply lc_cons | apply e_yes | apply e_seqI | apply e_enum | apply e_rng1 | apply e_rng2 | apply e_callD | apply e_call | apply e_make | apply e_meth | apply e_prop | apply e_attr | apply e_neO | apply e_eqO | apply e_par3 | apply e_seq | apply sq_n | apply sq_r | apply sq_b | apply sq_c | apply e_set | apply e_par | apply e_asg | apply e_expr | apply e_app | apply e_ret | apply e_retN | apply e_nxt | apply e_flw | apply e_if | apply e_for | apply lp_nil | apply lp_cons | apply lp_n | apply lp_c | apply lp_b | apply lp_r | apply e_setI | apply e_setF | apply e_retM | apply e_pure | apply e_pureT | apply e_eqN | apply e_eqTu | apply e_appT | apply e_sem | apply ok_ok) | ((with_reducible refine c_t ?hb ?_); (case hb => decide)) | ((with_reducible refine c_f ?hb ?_); (case hb => decide)) | ((with_reducible refine c_t ?hb ?_); (case hb => first | with_reducible rfl | with_reducible assumption | (simp <;> omega) | omega)) | ((with_reducible refine c_f ?hb ?_); (case hb => first | with_reducible rfl | with_reducible assumption | (simp <;> omega) | omega)) | with_reducible (apply lc_put) | with_reducible (apply lc_skip)
end L43
end
section
set_option Elab.async false
set_option linter.all false
set_option maxRecDepth 100000
set_option maxHeartbeats 4000000
namespace L43
open PySem PySem.Spec PyProof.Rows L2 Wp
/-! R21: the law -/
theorem eqC_pair (a b : Int) (c d : List Int) : eqC (.tup [.int a, il c]) (.tup [.int b, il d]) = some (decide (a = b) && decide (c = d)) := by
  have sh : ∀ (a : Int) (c : List Int), SeqAt.shaped (.tuple [.int a, .list (c.map .int)]) = true := fun a c => by
    have := depth_ints c
    simp only [SeqAt.shaped, PyData.canLay0, PyData.canLayAll0, lay_ints, PyData.depth, PyData.depthAll, Bool.true_and, Bool.and_self]
    exact decide_eq_true (by omega)
  unfold eqC
  simp only [il, toPy, toPys, toPys_ints, Option.map_some, Option.bind_some, sh, Bool.and_self, if_true, PyData.eqv, PyData.eqvAll, eqv_ints, Bool.and_true]
  rfl
theorem eq_pair (a b : Int) (c d : List Int) : gEq (.tup [.int a, il c]) (.tup [.int b, il d]) = some (.sh (.bl (decide (a = b) && decide (c = d)))) := by
  show (eqC _ _).map _ = _
  rw [eqC_pair]
  rfl
theorem ne_nil (cs : List Int) : gNe (il cs) (.lst []) = some (.sh (.bl (!decide (cs = [])))) := by
  show (eqC (il cs) (il [])).map _ = _
  rw [eqC_il]
  rfl
section
variable (x0 : Option Val) (P : Val) (h h2 : Int) (cs cs2 : List Int) (hi : Inc cs) (hi2 : Inc cs2) (hl : cs.length ≤ 7) (hl2 : cs2.length ≤ 7)
include hi hi2 hl hl2
abbrev lwE : Wp.Env := [x0, some P, some (.sh (.int h)), some (iv cs), some (.ot [.sh (.int h2), iv cs2])]
theorem pure1 : fPureT (fBl (f2 (f2 (fDisp .ot (fCons (fVar 2) (fCons (fVar 3) fNil))) (fVar 4) (p2 gEq)) (fEqO eqT (fMake 0 2 i_Stair_init (fCons (fVar 2) (fCons (fVar 3) fNil))) (fMake 0 2 i_Stair_init (fCons (f2 (fVar 4) (fLit (.int 0)) (p2 gSub2)) (fCons (f2 (fVar 4) (fLit (.int 1)) (p2 gSub2)) fNil)))) (p2 gNe))) (lwE x0 P h h2 cs cs2) =
    some (.ok false (lwE x0 P h h2 cs cs2)) := by
  have m1 := F_initS h cs hi (by omega)
  have m2 := F_initS h2 cs2 hi2 (by omega)
  have e1 := eq_pair h h2 cs cs2
  have e2 := F_eq h h2 cs cs2
  have e3 := ne_bl (decide (h = h2) && decide (cs = cs2))
  have i0 := ix_0 (.int h2) (il cs2)
  have i1 := ix_1 (.int h2) (il cs2)
  have fo1 : D.obj 0 fsS [.int h, .tup (cs.map .int)] = stD h cs := rfl
  have fo2 : D.obj 0 fsS [.int h2, .tup (cs2.map .int)] = stD h2 cs2 := rfl
  generalize (decide (h = h2) && decide (cs = cs2)) = B at *
  simp only [lwE, iv, il] at *
  generalize cs.map D.int = C at *
  generalize cs2.map D.int = C2 at *
  repeat first | with_reducible (first | exact m1 | exact m2 | exact e1 | exact e2 | exact e3 | exact i0 | exact i1) | (refine Lf.mk ?_ <;> first | (simp only [sharE, immD, tupD, Option.map_none, Fi.dv, List.drop_nil, List.drop_zero, List.drop_succ_cons, prepAll, prep1, Val.top, Val.d, ds_sh, Val.ds, esc1, escAll, escS, argAll, pass1, arg1, backAll, back1, shAll, shOf, shAll_map, isOl, shList, itemsT, itemsL, gNm, gTp, gsCons, gsNil, wipeE, outF, List.getElem?_cons_zero, List.getElem?_cons_succ, List.getElem?_nil, List.set_cons_zero, List.set_cons_succ, List.headD_cons, List.headD_nil, List.tail_cons, List.tail_nil, List.length_cons, List.length_nil, List.map_cons, List.map_nil, List.replicate_zero, List.replicate_succ, List.cons_append, List.nil_append, List.append_nil, Nat.reduceAdd, Nat.reduceSub, Nat.reduceLT, Nat.reduceLeDiff, Nat.zero_add, Nat.add_zero, Nat.sub_self, Nat.zero_lt_succ, Nat.add_lt_add_iff_right, if_true, if_false, ite_true, ite_false, reduceIte, Bool.false_eq_true, Option.map_some, Option.bind_some, decide_true, decide_false, fo1, fo2] <;> first | exact rfl | decide) | exact rfl | decide) | (refine Gp.mk ?_ <;> first | with_reducible (first | exact m1 | exact m2 | exact e1 | exact e2 | exact e3 | exact i0 | exact i1) | (simp only [p1, p2, gAdd, Wp.gSub, gMul, gMod, gNeg, gCmp, cmpF, cLt, cLe, cGt, cGe, gEq, gNe, gIsN, gSub2, gIx, gLen, gMx2, gMn2, gInt, gBits, truthD, itemsX, itemsL, itemsT, shItems, shAll, shOf, shAll_map, Val.d, ds_sh, Val.ds, List.map_cons, List.map_nil, List.length_cons, List.length_nil, List.length_map, Option.map_some, Option.bind_some, Option.map_none, Option.bind_none, Bool.not_true, Bool.not_false, if_true, if_false, reduceIte, Bool.false_eq_true, numV, fo1, fo2] <;> exact rfl) | exact rfl) | (refine Sz.mk ?_ <;> first | assumption | with_reducible (first | exact m1 | exact m2 | exact e1 | exact e2 | exact e3 | exact i0 | exact i1) | (simp [sizeLine_eq]; done) | (simp [sizeLine_eq] <;> omega) | (simp [sizeLine_eq, small62] <;> omega)) | with_reducible (first | apply e_var | apply e_lit | apply e_f1 | apply e_f2 | apply e_fn | apply e_app1 | apply e_app2 | apply e_nil | apply e_cons | apply e_bl | apply e_tru | apply e_notT | apply e_andT | apply e_orT | apply e_andV | apply e_orV | apply e_notV | apply e_ite | apply e_disp | apply e_pt0 | apply e_pt1 | apply e_slice | apply e_lc | apply lc_nil | apply lc_cons | apply e_yes | apply e_seqI | apply e_enum | apply e_rng1 | apply e_rng2 | apply e_callD | apply e_call | apply e_make | apply e_meth | apply e_prop | apply e_attr | apply e_neO | apply e_eqO | apply e_par3 | apply e_seq | apply sq_n | apply sq_r | apply sq_b | apply sq_c | apply e_set | apply e_par | apply e_asg | apply e_expr | apply e_app | apply e_ret | apply e_retN | apply e_nxt | apply e_flw | apply e_if | apply e_for | apply lp_nil | apply lp_cons | apply lp_n | apply lp_c | apply lp_b | apply lp_r | apply e_setI | apply e_setF | apply e_retM | apply e_pure | apply e_pureT | apply e_eqN | apply e_eqTu | apply e_appT | apply e_sem | apply ok_ok) | ((with_reducible refine c_t ?hb ?_); (case hb => decide)) | ((with_reducible refine c_f ?hb ?_); (case hb => decide)) | ((with_reducible refine c_t ?hb ?_); (case hb => first | with_reducible rfl | with_reducible assumption | (simp [fo1, fo2] <;> omega) | omega)) | ((with_reducible refine c_f ?hb ?_); (case hb => first | with_reducible rfl | with_reducible assumption | (simp [fo1, fo2] <;> omega) | omega)) | with_reducible (apply lc_put) | with_reducible (apply lc_skip)
theorem pure2 : fPureT (fBl (f2 (fNeO eqT (fMake 0 2 i_Stair_init (fCons (fVar 2) (fCons (fVar 3) fNil))) (fMake 0 2 i_Stair_init (fCons (fVar 2) (fCons (fn (fCons (fVar 3) fNil) (p1 gList)) fNil)))) (fLit (.bl false)) (p2 (gIsB true)))) (lwE x0 P h h2 cs cs2) = some (.ok false (lwE x0 P h h2 cs cs2)) := by
  have m1 := F_initS h cs hi (by omega)
  have m2 := F_initO h cs hi (by omega)
  have e2 := F_eq h h cs cs
  rw [decide_eq_true rfl, decide_eq_true rfl] at e2
  have g1 : gList (il cs) = some (iv cs) := rfl
  have g2 : gIsB true (.bl (!(true && true))) (.bl false) = some (.sh (.bl false)) := rfl
  have fo1 : D.obj 0 fsS [.int h, .tup (cs.map .int)] = stD h cs := rfl
  simp only [lwE, iv, il] at *
  generalize cs.map D.int = C at *
  generalize cs2.map D.int = C2 at *
  repeat first | with_reducible (first | exact m1 | exact m2 | exact e2 | exact g1 | exact g2) | (refine Lf.mk ?_ <;> first | (simp only [sharE, immD, tupD, Option.map_none, Fi.dv, List.drop_nil, List.drop_zero, List.drop_succ_cons, prepAll, prep1, Val.top, Val.d, ds_sh, Val.ds, esc1, escAll, escS, argAll, pass1, arg1, backAll, back1, shAll, shOf, shAll_map, isOl, shList, itemsT, itemsL, gNm, gTp, gsCons, gsNil, wipeE, outF, List.getElem?_cons_zero, List.getElem?_cons_succ, List.getElem?_nil, List.set_cons_zero, List.set_cons_succ, List.headD_cons, List.headD_nil, List.tail_cons, List.tail_nil, List.length_cons, List.length_nil, List.map_cons, List.map_nil, List.replicate_zero, List.replicate_succ, List.cons_append, List.nil_append, List.append_nil, Nat.reduceAdd, Nat.reduceSub, Nat.reduceLT, Nat.reduceLeDiff, Nat.zero_add, Nat.add_zero, Nat.sub_self, Nat.zero_lt_succ, Nat.add_lt_add_iff_right, if_true, if_false, ite_true, ite_false, reduceIte, Bool.false_eq_true, Option.map_some, Option.bind_some, decide_true, decide_false, fo1] <;> first | exact rfl | decide) | exact rfl | decide) | (refine Gp.mk ?_ <;> first | with_reducible (first | exact m1 | exact m2 | exact e2 | exact g1 | exact g2) | (simp only [p1, p2, gAdd, Wp.gSub, gMul, gMod, gNeg, gCmp, cmpF, cLt, cLe, cGt, cGe, gEq, gNe, gIsN, gSub2, gIx, gLen, gMx2, gMn2, gInt, gBits, truthD, itemsX, itemsL, itemsT, shItems, shAll, shOf, shAll_map, Val.d, ds_sh, Val.ds, List.map_cons, List.map_nil, List.length_cons, List.length_nil, List.length_map, Option.map_some, Option.bind_some, Option.map_none, Option.bind_none, Bool.not_true, Bool.not_false, if_true, if_false, reduceIte, Bool.false_eq_true, numV, fo1] <;> exact rfl) | exact rfl) | (refine Sz.mk ?_ <;> first | assumption | with_reducible (first | exact m1 | exact m2 | exact e2 | exact g1 | exact g2) | (simp [sizeLine_eq]; done) | (simp [sizeLine_eq] <;> omega) | (simp [sizeLine_eq, small62] <;> omega)) | with_reducible (first | apply e_var | apply e_lit | apply e_f1 | apply e_f2 | apply e_fn | apply e_app1 | apply e_app2 | apply e_nil | apply e_cons | apply e_bl | apply e_tru | apply e_notT | apply e_andT | apply e_orT | apply e_andV | apply e_orV | apply e_notV | apply e_ite | apply e_disp | apply e_pt0 | apply e_pt1 | apply e_slice | apply e_lc | apply lc_nil | apply lc_cons | apply e_yes | apply e_seqI | apply e_enum | apply e_rng1 | apply e_rng2 | apply e_callD | apply e_call | apply e_make | apply e_meth | apply e_prop | apply e_attr | apply e_neO | apply e_eqO | apply e_par3 | apply e_seq | apply sq_n | apply sq_r | apply sq_b | apply sq_c | apply e_set | apply e_par | apply e_asg | apply e_expr | apply e_app | apply e_ret | apply e_retN | apply e_nxt | apply e_flw | apply e_if | apply e_for | apply lp_nil | apply lp_cons | apply lp_n | apply lp_c | apply lp_b | apply lp_r | apply e_setI | apply e_setF | apply e_retM | apply e_pure | apply e_pureT | apply e_eqN | apply e_eqTu | apply e_appT | apply e_sem | apply ok_ok) | ((with_reducible refine c_t ?hb ?_); (case hb => decide)) | ((with_reducible refine c_f ?hb ?_); (case hb => decide)) | ((with_reducible refine c_t ?hb ?_); (case hb => first | with_reducible rfl | with_reducible assumption | (simp [fo1] <;> omega) | omega)) | ((with_reducible refine c_f ?hb ?_); (case hb => first | with_reducible rfl | with_reducible assumption | (simp [fo1] <;> omega) | omega)) | with_reducible (apply lc_put) | with_reducible (apply lc_skip)
theorem pure3 : fPureT (fBl (fEqTu eqT (fDisp .ot (fCons (fVar 2) (fCons (fVar 3) fNil))) (fMake 0 2 i_Stair_init (fCons (fVar 2) (fCons (fVar 3) fNil))))) (lwE x0 P h h2 cs cs2) = some (.ok false (lwE x0 P h h2 cs cs2)) := by
  have m1 := F_initS h cs hi (by omega)
  have e2 := eq_tup h cs [.int h, il cs]
  have fo1 : D.obj 0 fsS [.int h, .tup (cs.map .int)] = stD h cs := rfl
  simp only [lwE, iv, il] at *
  generalize cs.map D.int = C at *
  generalize cs2.map D.int = C2 at *
  repeat first | with_reducible (first | exact m1 | exact e2) | (refine Lf.mk ?_ <;> first | (simp only [sharE, immD, tupD, Option.map_none, Fi.dv, List.drop_nil, List.drop_zero, List.drop_succ_cons, prepAll, prep1, Val.top, Val.d, ds_sh, Val.ds, esc1, escAll, escS, argAll, pass1, arg1, backAll, back1, shAll, shOf, shAll_map, isOl, shList, itemsT, itemsL, gNm, gTp, gsCons, gsNil, wipeE, outF, List.getElem?_cons_zero, List.getElem?_cons_succ, List.getElem?_nil, List.set_cons_zero, List.set_cons_succ, List.headD_cons, List.headD_nil, List.tail_cons, List.tail_nil, List.length_cons, List.length_nil, List.map_cons, List.map_nil, List.replicate_zero, List.replicate_succ, List.cons_append, List.nil_append, List.append_nil, Nat.reduceAdd, Nat.reduceSub, Nat.reduceLT, Nat.reduceLeDiff, Nat.zero_add, Nat.add_zero, Nat.sub_self, Nat.zero_lt_succ, Nat.add_lt_add_iff_right, if_true, if_false, ite_true, ite_false, reduceIte, Bool.false_eq_true, Option.map_some, Option.bind_some, decide_true, decide_false, fo1] <;> first | exact rfl | decide) | exact rfl | decide) | (refine Gp.mk ?_ <;> first | with_reducible (first | exact m1 | exact e2) | (simp only [p1, p2, gAdd, Wp.gSub, gMul, gMod, gNeg, gCmp, cmpF, cLt, cLe, cGt, cGe, gEq, gNe, gIsN, gSub2, gIx, gLen, gMx2, gMn2, gInt, gBits, truthD, itemsX, itemsL, itemsT, shItems, shAll, shOf, shAll_map, Val.d, ds_sh, Val.ds, List.map_cons, List.map_nil, List.length_cons, List.length_nil, List.length_map, Option.map_some, Option.bind_some, Option.map_none, Option.bind_none, Bool.not_true, Bool.not_false, if_true, if_false, reduceIte, Bool.false_eq_true, numV, fo1] <;> exact rfl) | exact rfl) | (refine Sz.mk ?_ <;> first | assumption | with_reducible (first | exact m1 | exact e2) | (simp [sizeLine_eq]; done) | (simp [sizeLine_eq] <;> omega) | (simp [sizeLine_eq, small62] <;> omega)) | with_reducible (first | apply e_var | apply e_lit | apply e_f1 | apply e_f2 | apply e_fn | apply e_app1 | apply e_app2 | apply e_nil | apply e_cons | apply e_bl | apply e_tru | apply e_notT | apply e_andT | apply e_orT | apply e_andV | apply e_orV | apply e_notV | apply e_ite | apply e_disp | apply e_pt0 | apply e_pt1 | apply e_slice | apply e_lc | apply lc_nil | apply lc_cons | apply e_yes | apply e_seqI | apply e_enum | apply e_rng1 | apply e_rng2 | apply e_callD | apply e_call | apply e_make | apply e_meth | apply e_prop | apply e_attr | apply e_neO | apply e_eqO | apply e_par3 | apply e_seq | apply sq_n | apply sq_r | apply sq_b | apply sq_c | apply e_set | apply e_par | apply e_asg | apply e_expr | apply e_app | apply e_ret | apply e_retN | apply e_nxt | apply e_flw | apply e_if | apply e_for | apply lp_nil | apply lp_cons | apply lp_n | apply lp_c | apply lp_b | apply lp_r | apply e_setI | apply e_setF | apply e_retM | apply e_pure | apply e_pureT | apply e_eqN | apply e_eqTu | apply e_appT | apply e_sem | apply ok_ok) | ((with_reducible refine c_t ?hb ?_); (case hb => decide)) | ((with_reducible refine c_f ?hb ?_); (case hb => decide)) | ((with_reducible refine c_t ?hb ?_); (case hb => first | with_reducible rfl | with_reducible assumption | (simp [fo1] <;> omega) | omega)) | ((with_reducible refine c_f ?hb ?_); (case hb => first | with_reducible rfl | with_reducible assumption | (simp [fo1] <;> omega) | omega)) | with_reducible (apply lc_put) | with_reducible (apply lc_skip)
theorem pure5 : fPureT (fBl (fEqN eqT (fMake 0 2 i_Stair_init (fCons (fVar 2) (fCons (fVar 3) fNil))) (fLit .non))) (lwE x0 P h h2 cs cs2) = some (.ok false (lwE x0 P h h2 cs cs2)) := by
  have m1 := F_initS h cs hi (by omega)
  have e2 := eq_non h cs
  have fo1 : D.obj 0 fsS [.int h, .tup (cs.map .int)] = stD h cs := rfl
  simp only [lwE, iv, il] at *
  generalize cs.map D.int = C at *
  generalize cs2.map D.int = C2 at *
  repeat first | with_reducible (first | exact m1 | exact e2) | (refine Lf.mk ?_ <;> first | (simp only [sharE, immD, tupD, Option.map_none, Fi.dv, List.drop_nil, List.drop_zero, List.drop_succ_cons, prepAll, prep1, Val.top, Val.d, ds_sh, Val.ds, esc1, escAll, escS, argAll, pass1, arg1, backAll, back1, shAll, shOf, shAll_map, isOl, shList, itemsT, itemsL, gNm, gTp, gsCons, gsNil, wipeE, outF, List.getElem?_cons_zero, List.getElem?_cons_succ, List.getElem?_nil, List.set_cons_zero, List.set_cons_succ, List.headD_cons, List.headD_nil, List.tail_cons, List.tail_nil, List.length_cons, List.length_nil, List.map_cons, List.map_nil, List.replicate_zero, List.replicate_succ, List.cons_append, List.nil_append, List.append_nil, Nat.reduceAdd, Nat.reduceSub, Nat.reduceLT, Nat.reduceLeDiff, Nat.zero_add, Nat.add_zero, Nat.sub_self, Nat.zero_lt_succ, Nat.add_lt_add_iff_right, if_true, if_false, ite_true, ite_false, reduceIte, Bool.false_eq_true, Option.map_some, Option.bind_some, decide_true, decide_false, fo1] <;> first | exact rfl | decide) | exact rfl | decide) | (refine Gp.mk ?_ <;> first | with_reducible (first | exact m1 | exact e2) | (simp only [p1, p2, gAdd, Wp.gSub, gMul, gMod, gNeg, gCmp, cmpF, cLt, cLe, cGt, cGe, gEq, gNe, gIsN, gSub2, gIx, gLen, gMx2, gMn2, gInt, gBits, truthD, itemsX, itemsL, itemsT, shItems, shAll, shOf, shAll_map, Val.d, ds_sh, Val.ds, List.map_cons, List.map_nil, List.length_cons, List.length_nil, List.length_map, Option.map_some, Option.bind_some, Option.map_none, Option.bind_none, Bool.not_true, Bool.not_false, if_true, if_false, reduceIte, Bool.false_eq_true, numV, fo1] <;> exact rfl) | exact rfl) | (refine Sz.mk ?_ <;> first | assumption | with_reducible (first | exact m1 | exact e2) | (simp [sizeLine_eq]; done) | (simp [sizeLine_eq] <;> omega) | (simp [sizeLine_eq, small62] <;> omega)) | with_reducible (first | apply e_var | apply e_lit | apply e_f1 | apply e_f2 | apply e_fn | apply e_app1 | apply e_app2 | apply e_nil | apply e_cons | apply e_bl | apply e_tru | apply e_notT | apply e_andT | apply e_orT | apply e_andV | apply e_orV | apply e_notV | apply e_ite | apply e_disp | apply e_pt0 | apply e_pt1 | apply e_slice | apply e_lc | apply lc_nil | apply lc_cons | apply e_yes | apply e_seqI | apply e_enum | apply e_rng1 | apply e_rng2 | apply e_callD | apply e_call | apply e_make | apply e_meth | apply e_prop | apply e_attr | apply e_neO | apply e_eqO | apply e_par3 | apply e_seq | apply sq_n | apply sq_r | apply sq_b | apply sq_c | apply e_set | apply e_par | apply e_asg | apply e_expr | apply e_app | apply e_ret | apply e_retN | apply e_nxt | apply e_flw | apply e_if | apply e_for | apply lp_nil | apply lp_cons | apply lp_n | apply lp_c | apply lp_b | apply lp_r | apply e_setI | apply e_setF | apply e_retM | apply e_pure | apply e_pureT | apply e_eqN | apply e_eqTu | apply e_appT | apply e_sem | apply ok_ok) | ((with_reducible refine c_t ?hb ?_); (case hb => decide)) | ((with_reducible refine c_f ?hb ?_); (case hb => decide)) | ((with_reducible refine c_t ?hb ?_); (case hb => first | with_reducible rfl | with_reducible assumption | (simp [fo1] <;> omega) | omega)) | ((with_reducible refine c_f ?hb ?_); (case hb => first | with_reducible rfl | with_reducible assumption | (simp [fo1] <;> omega) | omega)) | with_reducible (apply lc_put) | with_reducible (apply lc_skip)
theorem pure4 : fPureT (fAndT (fBl (f2 (fVar 3) (fDisp .ol fNil) (p2 gNe))) (fNotT (fTru (fCallN i__law_near_right 2 (fCons (fVar 2) (fCons (fVar 3) fNil)))))) (lwE x0 P h h2 cs cs2) = some (.ok false (lwE x0 P h h2 cs cs2)) := by
  have e1 := ne_nil cs
  by_cases hn : cs = []
  · rw [decide_eq_true hn] at e1
    simp only [lwE, iv, il] at *
    generalize cs.map D.int = C at *
    generalize cs2.map D.int = C2 at *
    repeat first | with_reducible (first | exact e1) | (refine Lf.mk ?_ <;> first | (simp only [sharE, immD, tupD, Option.map_none, Fi.dv, List.drop_nil, List.drop_zero, List.drop_succ_cons, prepAll, prep1, Val.top, Val.d, ds_sh, Val.ds, esc1, escAll, escS, argAll, pass1, arg1, backAll, back1, shAll, shOf, shAll_map, isOl, shList, itemsT, itemsL, gNm, gTp, gsCons, gsNil, wipeE, outF, List.getElem?_cons_zero, List.getElem?_cons_succ, List.getElem?_nil, List.set_cons_zero, List.set_cons_succ, List.headD_cons, List.headD_nil, List.tail_cons, List.tail_nil, List.length_cons, List.length_nil, List.map_cons, List.map_nil, List.replicate_zero, List.replicate_succ, List.cons_append, List.nil_append, List.append_nil, Nat.reduceAdd, Nat.reduceSub, Nat.reduceLT, Nat.reduceLeDiff, Nat.zero_add, Nat.add_zero, Nat.sub_self, Nat.zero_lt_succ, Nat.add_lt_add_iff_right, if_true, if_false, ite_true, ite_false, reduceIte, Bool.false_eq_true, Option.map_some, Option.bind_some, decide_true, decide_false] <;> first | exact rfl | decide) | exact rfl | decide) | (refine Gp.mk ?_ <;> first | with_reducible (first | exact e1) | (simp only [p1, p2, gAdd, Wp.gSub, gMul, gMod, gNeg, gCmp, cmpF, cLt, cLe, cGt, cGe, gEq, gNe, gIsN, gSub2, gIx, gLen, gMx2, gMn2, gInt, gBits, truthD, itemsX, itemsL, itemsT, shItems, shAll, shOf, shAll_map, Val.d, ds_sh, Val.ds, List.map_cons, List.map_nil, List.length_cons, List.length_nil, List.length_map, Option.map_some, Option.bind_some, Option.map_none, Option.bind_none, Bool.not_true, Bool.not_false, if_true, if_false, reduceIte, Bool.false_eq_true, numV] <;> exact rfl) | exact rfl) | (refine Sz.mk ?_ <;> first | assumption | with_reducible (first | exact e1) | (simp [sizeLine_eq]; done) | (simp [sizeLine_eq] <;> omega) | (simp [sizeLine_eq, small62] <;> omega)) | with_reducible (first | apply e_var | apply e_lit | apply e_f1 | apply e_f2 | apply e_fn | apply e_app1 | apply e_app2 | apply e_nil | apply e_cons | apply e_bl | apply e_tru | apply e_notT | apply e_andT | apply e_orT | apply e_andV | apply e_orV | apply e_notV | apply e_ite | apply e_disp | apply e_pt0 | apply e_pt1 | apply e_slice | apply e_lc | apply lc_nil | apply lc_cons | apply e_yes | apply e_seqI | apply e_enum | apply e_rng1 | apply e_rng2 | apply e_callD | apply e_call | apply e_make | apply e_meth | apply e_prop | apply e_attr | apply e_neO | apply e_eqO | apply e_par3 | apply e_seq | apply sq_n | apply sq_r | apply sq_b | apply sq_c | apply e_set | apply e_par | apply e_asg | apply e_expr | apply e_app | apply e_ret | apply e_retN | apply e_nxt | apply e_flw | apply e_if | apply e_for | apply lp_nil | apply lp_cons | apply lp_n | apply lp_c | apply lp_b | apply lp_r | apply e_setI | apply e_setF | apply e_retM | apply e_pure | apply e_pureT | apply e_eqN | apply e_eqTu | apply e_appT | apply e_sem | apply ok_ok) | ((with_reducible refine c_t ?hb ?_); (case hb => decide)) | ((with_reducible refine c_f ?hb ?_); (case hb => decide)) | ((with_reducible refine c_t ?hb ?_); (case hb => first | with_reducible rfl | with_reducible assumption | (simp <;> omega) | omega)) | ((with_reducible refine c_f ?hb ?_); (case hb => first | with_reducible rfl | with_reducible assumption | (simp <;> omega) | omega)) | with_reducible (apply lc_put) | with_reducible (apply lc_skip)
  · rw [decide_eq_false hn] at e1
    obtain ⟨A, l, rfl⟩ : ∃ A l, cs = A ++ [l] := ⟨cs.dropLast, cs.getLast hn, (List.dropLast_concat_getLast hn).symm⟩
    have e2 := F_near h A l hi (by omega)
    simp only [lwE, iv, il] at *
    generalize (A ++ [l]).map D.int = C at *
    generalize cs2.map D.int = C2 at *
    refine (?_ : _ = some (Res.ok (!(true)) _))
    repeat first | with_reducible (first | exact e1 | exact e2) | (refine Lf.mk ?_ <;> first | (simp only [sharE, immD, tupD, Option.map_none, Fi.dv, List.drop_nil, List.drop_zero, List.drop_succ_cons, prepAll, prep1, Val.top, Val.d, ds_sh, Val.ds, esc1, escAll, escS, argAll, pass1, arg1, backAll, back1, shAll, shOf, shAll_map, isOl, shList, itemsT, itemsL, gNm, gTp, gsCons, gsNil, wipeE, outF, List.getElem?_cons_zero, List.getElem?_cons_succ, List.getElem?_nil, List.set_cons_zero, List.set_cons_succ, List.headD_cons, List.headD_nil, List.tail_cons, List.tail_nil, List.length_cons, List.length_nil, List.map_cons, List.map_nil, List.replicate_zero, List.replicate_succ, List.cons_append, List.nil_append, List.append_nil, Nat.reduceAdd, Nat.reduceSub, Nat.reduceLT, Nat.reduceLeDiff, Nat.zero_add, Nat.add_zero, Nat.sub_self, Nat.zero_lt_succ, Nat.add_lt_add_iff_right, if_true, if_false, ite_true, ite_false, reduceIte, Bool.false_eq_true, Option.map_some, Option.bind_some, decide_true, decide_false] <;> first | exact rfl | decide) | exact rfl | decide) | (refine Gp.mk ?_ <;> first | with_reducible (first | exact e1 | exact e2) | (simp only [p1, p2, gAdd, Wp.gSub, gMul, gMod, gNeg, gCmp, cmpF, cLt, cLe, cGt, cGe, gEq, gNe, gIsN, gSub2, gIx, gLen, gMx2, gMn2, gInt, gBits, truthD, itemsX, itemsL, itemsT, shItems, shAll, shOf, shAll_map, Val.d, ds_sh, Val.ds, List.map_cons, List.map_nil, List.length_cons, List.length_nil, List.length_map, Option.map_some, Option.bind_some, Option.map_none, Option.bind_none, Bool.not_true, Bool.not_false, if_true, if_false, reduceIte, Bool.false_eq_true, numV] <;> exact rfl) | exact rfl) | (refine Sz.mk ?_ <;> first | assumption | with_reducible (first | exact e1 | exact e2) | (simp [sizeLine_eq]; done) | (simp [sizeLine_eq] <;> omega) | (simp [sizeLine_eq, small62] <;> omega)) | with_reducible (first | apply e_var | apply e_lit | apply e_f1 | apply e_f2 | apply e_fn | apply e_app1 | apply e_app2 | apply e_nil | apply e_cons | apply e_bl | apply e_tru | apply e_notT | apply e_andT | apply e_orT | apply e_andV | apply e_orV | apply e_notV | apply e_ite | apply e_disp | apply e_pt0 | apply e_pt1 | apply e_slice | apply e_lc | apply lc_nil | apply lc_cons | apply e_yes | apply e_seqI | apply e_enum | apply e_rng1 | apply e_rng2 | apply e_callD | apply e_call | apply e_make | apply e_meth | apply e_prop | apply e_attr | apply e_neO | apply e_eqO | apply e_par3 | apply e_seq | apply sq_n | apply sq_r | apply sq_b | apply sq_c | apply e_set | apply e_par | apply e_asg | apply e_expr | apply e_app | apply e_ret | apply e_retN | apply e_nxt | apply e_flw | apply e_if | apply e_for | apply lp_nil | apply lp_cons | apply lp_n | apply lp_c | apply lp_b | apply lp_r | apply e_setI | apply e_setF | apply e_retM | apply e_pure | apply e_pureT | apply e_eqN | apply e_eqTu | apply e_appT | apply e_sem | apply ok_ok) | ((with_reducible refine c_t ?hb ?_); (case hb => decide)) | ((with_reducible refine c_f ?hb ?_); (case hb => decide)) | ((with_reducible refine c_t ?hb ?_); (case hb => first | with_reducible rfl | with_reducible assumption | (simp <;> omega) | omega)) | ((with_reducible refine c_f ?hb ?_); (case hb => first | with_reducible rfl | with_reducible assumption | (simp <;> omega) | omega)) | with_reducible (apply lc_put) | with_reducible (apply lc_skip)
end
end L43
end
section
set_option Elab.async false
set_option linter.all false
set_option maxRecDepth 100000
set_option maxHeartbeats 0
namespace L43
open PySem PySem.Spec PyProof.Rows L2 Wp
def top (i : Nat) : Stmt := PySem.Challenge.pw_whosepace_k43_stairs_made.main.body.getD i (.Pass ⟨0, 0, 0, 0⟩)
def clsBody : Stmt → List Stmt
  | .ClassDef _ _ _ body _ _ _ _ _ _ _ => body
  | _ => []
abbrev st__law_purse : Stmt := top 16
abbrev st__law_purses : Stmt := top 19
abbrev st__law_mixed : Stmt := top 17
abbrev st__law_draw : Stmt := top 18
abbrev st__law_one_of : Stmt := top 20
abbrev st__law_corners : Stmt := top 21
abbrev st__law_stair : Stmt := top 22
abbrev st_is_whole : Stmt := top 7
abbrev st_check_whole : Stmt := top 9
abbrev st_is_count : Stmt := top 8
abbrev st_are_corners : Stmt := top 12
abbrev st_Stair_init : Stmt := (clsBody (top 13)).getD 0 (.Pass ⟨0, 0, 0, 0⟩)
abbrev st_Stair_eq : Stmt := (clsBody (top 13)).getD 11 (.Pass ⟨0, 0, 0, 0⟩)
abbrev st__law_near_right : Stmt := top 26
abbrev st__law_steps : Stmt := top 23
abbrev st_Stair_begin : Stmt := (clsBody (top 13)).getD 1 (.Pass ⟨0, 0, 0, 0⟩)
abbrev st_Stair_corners : Stmt := (clsBody (top 13)).getD 2 (.Pass ⟨0, 0, 0, 0⟩)
abbrev st_check_count : Stmt := top 10
abbrev st_Stair_rises : Stmt := (clsBody (top 13)).getD 3 (.Pass ⟨0, 0, 0, 0⟩)
abbrev st_Stair_height : Stmt := (clsBody (top 13)).getD 4 (.Pass ⟨0, 0, 0, 0⟩)
abbrev st_Stair_value : Stmt := (clsBody (top 13)).getD 6 (.Pass ⟨0, 0, 0, 0⟩)
abbrev st_Stair_end : Stmt := (clsBody (top 13)).getD 7 (.Pass ⟨0, 0, 0, 0⟩)
abbrev st_Stair_last_at : Stmt := (clsBody (top 13)).getD 9 (.Pass ⟨0, 0, 0, 0⟩)
abbrev st_Stair_undone : Stmt := (clsBody (top 13)).getD 8 (.Pass ⟨0, 0, 0, 0⟩)
abbrev st__law_undone : Stmt := top 24
abbrev st_moved_stair : Stmt := top 14
abbrev st_Stair_shifted : Stmt := (clsBody (top 13)).getD 10 (.Pass ⟨0, 0, 0, 0⟩)
abbrev st__law_right : Stmt := top 25
abbrev st__law_great_right : Stmt := top 27
abbrev st_law : Stmt := top 28
structure Tx (M : Md) : Prop where
  mg_bool : M.mg "bool" = none
  mg_int : M.mg "int" = none
  mg_isinstance : M.mg "isinstance" = none
  mg_len : M.mg "len" = none
  mg_list : M.mg "list" = none
  mg_max : M.mg "max" = none
  mg_min : M.mg "min" = none
  mg_range : M.mg "range" = none
  mg_repr : M.mg "repr" = none
  mg_sum : M.mg "sum" = none
  mg_tuple : M.mg "tuple" = none
  fn__law_purse : ∃ fd, FunD M.K "_law_purse" "_law_purse" (defArgs st__law_purse) (defBody st__law_purse) (defScope st__law_purse) [] [] (He.fAd M.K ("_law_purse", none)) fd
  gl__law_purse : M.mg "_law_purse" = some (.ref (He.fAd M.K ("_law_purse", none)))
  kp__law_purse : PySem.W.keepIn M.K (.ref (He.fAd M.K ("_law_purse", none))) = true
  fn__law_purses : ∃ fd, FunD M.K "_law_purses" "_law_purses" (defArgs st__law_purses) (defBody st__law_purses) (defScope st__law_purses) [] [] (He.fAd M.K ("_law_purses", none)) fd
  gl__law_purses : M.mg "_law_purses" = some (.ref (He.fAd M.K ("_law_purses", none)))
  kp__law_purses : PySem.W.keepIn M.K (.ref (He.fAd M.K ("_law_purses", none))) = true
  fn__law_mixed : ∃ fd, FunD M.K "_law_mixed" "_law_mixed" (defArgs st__law_mixed) (defBody st__law_mixed) (defScope st__law_mixed) [] [] (He.fAd M.K ("_law_mixed", none)) fd
  gl__law_mixed : M.mg "_law_mixed" = some (.ref (He.fAd M.K ("_law_mixed", none)))
  kp__law_mixed : PySem.W.keepIn M.K (.ref (He.fAd M.K ("_law_mixed", none))) = true
  fn__law_draw : ∃ fd, FunD M.K "_law_draw" "_law_draw" (defArgs st__law_draw) (defBody st__law_draw) (defScope st__law_draw) [] [] (He.fAd M.K ("_law_draw", none)) fd
  gl__law_draw : M.mg "_law_draw" = some (.ref (He.fAd M.K ("_law_draw", none)))
  kp__law_draw : PySem.W.keepIn M.K (.ref (He.fAd M.K ("_law_draw", none))) = true
  fn__law_one_of : ∃ fd, FunD M.K "_law_one_of" "_law_one_of" (defArgs st__law_one_of) (defBody st__law_one_of) (defScope st__law_one_of) [] [] (He.fAd M.K ("_law_one_of", none)) fd
  gl__law_one_of : M.mg "_law_one_of" = some (.ref (He.fAd M.K ("_law_one_of", none)))
  kp__law_one_of : PySem.W.keepIn M.K (.ref (He.fAd M.K ("_law_one_of", none))) = true
  fn__law_corners : ∃ fd, FunD M.K "_law_corners" "_law_corners" (defArgs st__law_corners) (defBody st__law_corners) (defScope st__law_corners) [] [] (He.fAd M.K ("_law_corners", none)) fd
  gl__law_corners : M.mg "_law_corners" = some (.ref (He.fAd M.K ("_law_corners", none)))
  kp__law_corners : PySem.W.keepIn M.K (.ref (He.fAd M.K ("_law_corners", none))) = true
  fn__law_stair : ∃ fd, FunD M.K "_law_stair" "_law_stair" (defArgs st__law_stair) (defBody st__law_stair) (defScope st__law_stair) [] [] (He.fAd M.K ("_law_stair", none)) fd
  gl__law_stair : M.mg "_law_stair" = some (.ref (He.fAd M.K ("_law_stair", none)))
  kp__law_stair : PySem.W.keepIn M.K (.ref (He.fAd M.K ("_law_stair", none))) = true
  fn_is_whole : ∃ fd, FunD M.K "is_whole" "is_whole" (defArgs st_is_whole) (defBody st_is_whole) (defScope st_is_whole) [] [] (He.fAd M.K ("is_whole", none)) fd
  gl_is_whole : M.mg "is_whole" = some (.ref (He.fAd M.K ("is_whole", none)))
  kp_is_whole : PySem.W.keepIn M.K (.ref (He.fAd M.K ("is_whole", none))) = true
  fn_check_whole : ∃ fd, FunD M.K "check_whole" "check_whole" (defArgs st_check_whole) (defBody st_check_whole) (defScope st_check_whole) [] [] (He.fAd M.K ("check_whole", none)) fd
  gl_check_whole : M.mg "check_whole" = some (.ref (He.fAd M.K ("check_whole", none)))
  kp_check_whole : PySem.W.keepIn M.K (.ref (He.fAd M.K ("check_whole", none))) = true
  fn_is_count : ∃ fd, FunD M.K "is_count" "is_count" (defArgs st_is_count) (defBody st_is_count) (defScope st_is_count) [] [] (He.fAd M.K ("is_count", none)) fd
  gl_is_count : M.mg "is_count" = some (.ref (He.fAd M.K ("is_count", none)))
  kp_is_count : PySem.W.keepIn M.K (.ref (He.fAd M.K ("is_count", none))) = true
  fn_are_corners : ∃ fd, FunD M.K "are_corners" "are_corners" (defArgs st_are_corners) (defBody st_are_corners) (defScope st_are_corners) [] [] (He.fAd M.K ("are_corners", none)) fd
  gl_are_corners : M.mg "are_corners" = some (.ref (He.fAd M.K ("are_corners", none)))
  kp_are_corners : PySem.W.keepIn M.K (.ref (He.fAd M.K ("are_corners", none))) = true
  fn_Stair_init : ∃ fd, FunD M.K "__init__" "Stair.__init__" (defArgs st_Stair_init) (defBody st_Stair_init) (defScope st_Stair_init) [] [] (He.fAd M.K ("Stair", some "__init__")) fd
  fn_Stair_eq : ∃ fd, FunD M.K "__eq__" "Stair.__eq__" (defArgs st_Stair_eq) (defBody st_Stair_eq) (defScope st_Stair_eq) [] [] (He.fAd M.K ("Stair", some "__eq__")) fd
  fn__law_near_right : ∃ fd, FunD M.K "_law_near_right" "_law_near_right" (defArgs st__law_near_right) (defBody st__law_near_right) (defScope st__law_near_right) [] [] (He.fAd M.K ("_law_near_right", none)) fd
  gl__law_near_right : M.mg "_law_near_right" = some (.ref (He.fAd M.K ("_law_near_right", none)))
  kp__law_near_right : PySem.W.keepIn M.K (.ref (He.fAd M.K ("_law_near_right", none))) = true
  fn__law_steps : ∃ fd, FunD M.K "_law_steps" "_law_steps" (defArgs st__law_steps) (defBody st__law_steps) (defScope st__law_steps) [] [] (He.fAd M.K ("_law_steps", none)) fd
  gl__law_steps : M.mg "_law_steps" = some (.ref (He.fAd M.K ("_law_steps", none)))
  kp__law_steps : PySem.W.keepIn M.K (.ref (He.fAd M.K ("_law_steps", none))) = true
  fn_Stair_begin : ∃ fd, FunD M.K "begin" "Stair.begin" (defArgs st_Stair_begin) (defBody st_Stair_begin) (defScope st_Stair_begin) [] [] (pAd M.K "Stair" "begin") fd
  pr_Stair_begin : PropOf M.K (M.C 0) "begin" (He.ma M.K (M.C 0) "begin") (pAd M.K "Stair" "begin")
  fn_Stair_corners : ∃ fd, FunD M.K "corners" "Stair.corners" (defArgs st_Stair_corners) (defBody st_Stair_corners) (defScope st_Stair_corners) [] [] (pAd M.K "Stair" "corners") fd
  pr_Stair_corners : PropOf M.K (M.C 0) "corners" (He.ma M.K (M.C 0) "corners") (pAd M.K "Stair" "corners")
  fn_check_count : ∃ fd, FunD M.K "check_count" "check_count" (defArgs st_check_count) (defBody st_check_count) (defScope st_check_count) [.int 0, .non] [] (He.fAd M.K ("check_count", none)) fd
  gl_check_count : M.mg "check_count" = some (.ref (He.fAd M.K ("check_count", none)))
  kp_check_count : PySem.W.keepIn M.K (.ref (He.fAd M.K ("check_count", none))) = true
  fn_Stair_rises : ∃ fd, FunD M.K "rises" "Stair.rises" (defArgs st_Stair_rises) (defBody st_Stair_rises) (defScope st_Stair_rises) [] [] (He.fAd M.K ("Stair", some "rises")) fd
  fn_Stair_height : ∃ fd, FunD M.K "height" "Stair.height" (defArgs st_Stair_height) (defBody st_Stair_height) (defScope st_Stair_height) [] [] (He.fAd M.K ("Stair", some "height")) fd
  fn_Stair_value : ∃ fd, FunD M.K "value" "Stair.value" (defArgs st_Stair_value) (defBody st_Stair_value) (defScope st_Stair_value) [] [] (He.fAd M.K ("Stair", some "value")) fd
  fn_Stair_end : ∃ fd, FunD M.K "end" "Stair.end" (defArgs st_Stair_end) (defBody st_Stair_end) (defScope st_Stair_end) [] [] (He.fAd M.K ("Stair", some "end")) fd
  fn_Stair_last_at : ∃ fd, FunD M.K "last_at" "Stair.last_at" (defArgs st_Stair_last_at) (defBody st_Stair_last_at) (defScope st_Stair_last_at) [] [] (He.fAd M.K ("Stair", some "last_at")) fd
  fn_Stair_undone : ∃ fd, FunD M.K "undone" "Stair.undone" (defArgs st_Stair_undone) (defBody st_Stair_undone) (defScope st_Stair_undone) [] [] (He.fAd M.K ("Stair", some "undone")) fd
  fn__law_undone : ∃ fd, FunD M.K "_law_undone" "_law_undone" (defArgs st__law_undone) (defBody st__law_undone) (defScope st__law_undone) [] [] (He.fAd M.K ("_law_undone", none)) fd
  gl__law_undone : M.mg "_law_undone" = some (.ref (He.fAd M.K ("_law_undone", none)))
  kp__law_undone : PySem.W.keepIn M.K (.ref (He.fAd M.K ("_law_undone", none))) = true
  fn_moved_stair : ∃ fd, FunD M.K "moved_stair" "moved_stair" (defArgs st_moved_stair) (defBody st_moved_stair) (defScope st_moved_stair) [] [] (He.fAd M.K ("moved_stair", none)) fd
  gl_moved_stair : M.mg "moved_stair" = some (.ref (He.fAd M.K ("moved_stair", none)))
  kp_moved_stair : PySem.W.keepIn M.K (.ref (He.fAd M.K ("moved_stair", none))) = true
  fn_Stair_shifted : ∃ fd, FunD M.K "shifted" "Stair.shifted" (defArgs st_Stair_shifted) (defBody st_Stair_shifted) (defScope st_Stair_shifted) [] [] (He.fAd M.K ("Stair", some "shifted")) fd
  fn__law_right : ∃ fd, FunD M.K "_law_right" "_law_right" (defArgs st__law_right) (defBody st__law_right) (defScope st__law_right) [] [] (He.fAd M.K ("_law_right", none)) fd
  gl__law_right : M.mg "_law_right" = some (.ref (He.fAd M.K ("_law_right", none)))
  kp__law_right : PySem.W.keepIn M.K (.ref (He.fAd M.K ("_law_right", none))) = true
  fn__law_great_right : ∃ fd, FunD M.K "_law_great_right" "_law_great_right" (defArgs st__law_great_right) (defBody st__law_great_right) (defScope st__law_great_right) [] [] (He.fAd M.K ("_law_great_right", none)) fd
  gl__law_great_right : M.mg "_law_great_right" = some (.ref (He.fAd M.K ("_law_great_right", none)))
  kp__law_great_right : PySem.W.keepIn M.K (.ref (He.fAd M.K ("_law_great_right", none))) = true
  fn_law : ∃ fd, FunD M.K "law" "law" (defArgs st_law) (defBody st_law) (defScope st_law) [] [] (He.fAd M.K ("law", none)) fd
  gl_law : M.mg "law" = some (.ref (He.fAd M.K ("law", none)))
  kp_law : PySem.W.keepIn M.K (.ref (He.fAd M.K ("law", none))) = true
  gl_Stair : M.mg "Stair" = some (.ref (M.C 0))
  cls_0 : Cls M.K (M.C 0)
  na_0_base : NoAttr M.K (M.C 0) "base"
  na_0_turns : NoAttr M.K (M.C 0) "turns"
  mk_Stair : Mk M.K (M.C 0) (He.fAd M.K ("Stair", some "__init__"))
  me_Stair___eq__ : L2.Meth M.K (M.C 0) "__eq__" (He.fAd M.K ("Stair", some "__eq__"))
  me_Stair_end : L2.Meth M.K (M.C 0) "end" (He.fAd M.K ("Stair", some "end"))
  me_Stair_height : L2.Meth M.K (M.C 0) "height" (He.fAd M.K ("Stair", some "height"))
  me_Stair_last_at : L2.Meth M.K (M.C 0) "last_at" (He.fAd M.K ("Stair", some "last_at"))
  me_Stair_rises : L2.Meth M.K (M.C 0) "rises" (He.fAd M.K ("Stair", some "rises"))
  me_Stair_shifted : L2.Meth M.K (M.C 0) "shifted" (He.fAd M.K ("Stair", some "shifted"))
  me_Stair_undone : L2.Meth M.K (M.C 0) "undone" (He.fAd M.K ("Stair", some "undone"))
  me_Stair_value : L2.Meth M.K (M.C 0) "value" (He.fAd M.K ("Stair", some "value"))
  is_Stair : IsOk M (.ref (M.C 0)) bt_Stair ct_Stair
  is_bool : IsOk M (.type "bool") bt_bool ct_bool
  is_int : IsOk M (.type "int") bt_int ct_int
  is_list : IsOk M (.type "list") bt_list ct_list
  ne_Stair : PySem.W.findIn M.K (.ref (M.C 0)) "__ne__" = some (some (.builtin "object.__ne__")) ∧ PySem.W.mroIn M.K (M.C 0) (.type "object") = some true
  tu_Stair : PySem.W.mroIn M.K (M.C 0) (.type "tuple") = some false
section
variable {M : Md}
theorem Tx.fc_base (T : Tx M) : FcOk M "base" fc_base := fun c h => by
  have h : c < 1 := of_decide_eq_true h
  match c, h with
  | 0, _ => exact ⟨T.cls_0, T.na_0_base⟩
theorem Tx.fc_turns (T : Tx M) : FcOk M "turns" fc_turns := fun c h => by
  have h : c < 1 := of_decide_eq_true h
  match c, h with
  | 0, _ => exact ⟨T.cls_0, T.na_0_turns⟩
theorem sc__law_purse : FnScope ["script", "at", "seed"] ["script", "at"] (defScope st__law_purse) := ⟨rfl, rfl, rfl, by decide +kernel, rfl, by decide +kernel, by decide +kernel⟩
theorem g__law_purse (T : Tx M) {fd : FuncData} (F : FunD M.K "_law_purse" "_law_purse" (defArgs st__law_purse) (defBody st__law_purse) (defScope st__law_purse) [] [] (He.fAd M.K ("_law_purse", none)) fd) : FnG M.prog M.w M.K M.mg M.base 1 (He.fAd M.K ("_law_purse", none)) fd ["script", "at"] (spD M 2 F__law_purse) :=
  (fn_body (k := 0) (N := ["script", "at", "seed"]) (ps := ["script", "at"]) (kp := [0, 1]) (raw := true) F sc__law_purse (by decide) fun W X ok =>
    (okB_cons (ok_set ok (by rfl) (by kernel_rfl) (by decide) (ok_sum ok ⟨by kernel_rfl, T.mg_sum, bo_sum, by decide, by decide⟩ (okL_cons (ok_slice ok (ok_name ok ⟨by rfl, by kernel_rfl, by decide, by decide⟩) (ok_name ok ⟨by rfl, by kernel_rfl, by decide, by decide⟩) (ok_add ok (ok_name ok ⟨by rfl, by kernel_rfl, by decide, by decide⟩) lit_int)) okL_nil (star_cons rfl)) rfl) (swaps_no rfl))
      (okB_one (ok_ret (ok_list (okL_cons (ok_mod (ok_max2 ok ⟨by kernel_rfl, T.mg_max, bo_max, by decide, by decide⟩ (okL_cons (ok_sub (ok_name ok ⟨by rfl, by kernel_rfl, by decide, by decide⟩) (ok_pow lit_int lit_int)) (okL_cons lit_int okL_nil (star_cons rfl)) (star_cons rfl)) rfl) (ok_pow (ok_pow lit_int lit_int) lit_int)) (okL_cons (ok_mod (ok_name ok ⟨by rfl, by kernel_rfl, by decide, by decide⟩) lit_int) (okL_cons lit_int (okL_cons (ok_name ok ⟨by rfl, by kernel_rfl, by decide, by decide⟩) okL_nil (star_cons rfl)) (star_cons rfl)) (star_cons rfl)) (star_cons rfl)))))))
theorem cb__law_purse (T : Tx M) {k : Nat} (h : 1 ≤ k) : Cb M k (He.fAd M.K ("_law_purse", none)) i__law_purse.F i__law_purse.n i__law_purse.df := by
  obtain ⟨fd, F⟩ := T.fn__law_purse
  exact Cb.mono (Cb.of (g__law_purse T F) (F.bindsN fun _ _ _ _ _ _ us hl => match us, hl with | [_, _], _ => rfl)) h
theorem sc__law_purses : FnScope ["script", "few", "at"] ["script", "few"] (defScope st__law_purses) := ⟨rfl, rfl, rfl, by decide +kernel, rfl, by decide +kernel, by decide +kernel⟩
theorem g__law_purses (T : Tx M) {fd : FuncData} (F : FunD M.K "_law_purses" "_law_purses" (defArgs st__law_purses) (defBody st__law_purses) (defScope st__law_purses) [] [] (He.fAd M.K ("_law_purses", none)) fd) : FnG M.prog M.w M.K M.mg M.base 2 (He.fAd M.K ("_law_purses", none)) fd ["script", "few"] (spD M 2 F__law_purses) :=
  (fn_body (k := 1) (N := ["script", "few", "at"]) (ps := ["script", "few"]) (kp := [0, 1]) (raw := true) F sc__law_purses (by decide) fun W X ok =>
    (okB_one (ok_ret (ok_lc (own := [("at", 2)]) ok (okI_rng1 ok (by kernel_rfl) T.mg_range (okL_cons (ok_max2 ok ⟨by kernel_rfl, T.mg_max, bo_max, by decide, by decide⟩ (okL_cons lit_int (okL_cons (ok_min2 ok ⟨by kernel_rfl, T.mg_min, bo_min, by decide, by decide⟩ (okL_cons (ok_name ok ⟨by rfl, by kernel_rfl, by decide, by decide⟩) (okL_cons (ok_len ok ⟨by kernel_rfl, T.mg_len, bo_len, by decide, by decide⟩ (okL_cons (ok_name ok ⟨by rfl, by kernel_rfl, by decide, by decide⟩) okL_nil (star_cons rfl)) rfl) okL_nil (star_cons rfl)) (star_cons rfl)) rfl) okL_nil (star_cons rfl)) (star_cons rfl)) rfl) okL_nil (star_cons rfl)) rfl) (by kernel_rfl) (fun _ ok' => ⟨(okG_name ok' (by rfl) (by kernel_rfl) (by decide +kernel)), okTs_nil, (ok_callN ok' (by kernel_rfl) T.gl__law_purse T.kp__law_purse (by decide) (cb__law_purse T (by decide)) rfl rfl (by decide) (okL_cons (ok_name ok' ⟨by rfl, by kernel_rfl, by decide, by decide⟩) (okL_cons (ok_name ok' ⟨by rfl, by kernel_rfl, by decide, by decide⟩) okL_nil (star_cons rfl)) (star_cons rfl)))⟩) rfl))))
theorem cb__law_purses (T : Tx M) {k : Nat} (h : 2 ≤ k) : Cb M k (He.fAd M.K ("_law_purses", none)) i__law_purses.F i__law_purses.n i__law_purses.df := by
  obtain ⟨fd, F⟩ := T.fn__law_purses
  exact Cb.mono (Cb.of (g__law_purses T F) (F.bindsN fun _ _ _ _ _ _ us hl => match us, hl with | [_, _], _ => rfl)) h
theorem sc__law_mixed : FnScope ["seed", "turn", "at", "mixed"] ["seed", "turn", "at"] (defScope st__law_mixed) := ⟨rfl, rfl, rfl, by decide +kernel, rfl, by decide +kernel, by decide +kernel⟩
theorem g__law_mixed (T : Tx M) {fd : FuncData} (F : FunD M.K "_law_mixed" "_law_mixed" (defArgs st__law_mixed) (defBody st__law_mixed) (defScope st__law_mixed) [] [] (He.fAd M.K ("_law_mixed", none)) fd) : FnG M.prog M.w M.K M.mg M.base 1 (He.fAd M.K ("_law_mixed", none)) fd ["seed", "turn", "at"] (spD M 3 F__law_mixed) :=
  (fn_body (k := 0) (N := ["seed", "turn", "at", "mixed"]) (ps := ["seed", "turn", "at"]) (kp := [0, 1, 2]) (raw := false) F sc__law_mixed (by decide) fun W X ok =>
    (okB_cons (ok_set ok (by rfl) (by kernel_rfl) (by decide) (ok_add ok (ok_mul (ok_name ok ⟨by rfl, by kernel_rfl, by decide, by decide⟩) lit_int) (ok_mul (ok_mul lit_int (ok_name ok ⟨by rfl, by kernel_rfl, by decide, by decide⟩)) (ok_name ok ⟨by rfl, by kernel_rfl, by decide, by decide⟩))) (swaps_no rfl))
      (okB_cons (ok_set ok (by rfl) (by kernel_rfl) (by decide) (ok_mod (ok_add ok (ok_add ok (ok_name ok ⟨by rfl, by kernel_rfl, by decide, by decide⟩) (ok_mul lit_int (ok_name ok ⟨by rfl, by kernel_rfl, by decide, by decide⟩))) (ok_name ok ⟨by rfl, by kernel_rfl, by decide, by decide⟩)) lit_int) (swaps_no rfl))
      (okB_cons (ok_set ok (by rfl) (by kernel_rfl) (by decide) (ok_mod (ok_add ok (ok_mul (ok_name ok ⟨by rfl, by kernel_rfl, by decide, by decide⟩) (ok_name ok ⟨by rfl, by kernel_rfl, by decide, by decide⟩)) lit_int) lit_int) (swaps_no rfl))
      (okB_one (ok_ret (ok_mod (ok_mul (ok_name ok ⟨by rfl, by kernel_rfl, by decide, by decide⟩) lit_int) lit_int)))))))
theorem cb__law_mixed (T : Tx M) {k : Nat} (h : 1 ≤ k) : Cb M k (He.fAd M.K ("_law_mixed", none)) i__law_mixed.F i__law_mixed.n i__law_mixed.df := by
  obtain ⟨fd, F⟩ := T.fn__law_mixed
  exact Cb.mono (Cb.of (g__law_mixed T F) (F.bindsN fun _ _ _ _ _ _ us hl => match us, hl with | [_, _, _], _ => rfl)) h
theorem sc__law_draw : FnScope ["purse", "many", "drawn", "found", "piece"] ["purse", "many"] (defScope st__law_draw) := ⟨rfl, rfl, rfl, by decide +kernel, rfl, by decide +kernel, by decide +kernel⟩
theorem g__law_draw (T : Tx M) {fd : FuncData} (F : FunD M.K "_law_draw" "_law_draw" (defArgs st__law_draw) (defBody st__law_draw) (defScope st__law_draw) [] [] (He.fAd M.K ("_law_draw", none)) fd) : FnG M.prog M.w M.K M.mg M.base 2 (He.fAd M.K ("_law_draw", none)) fd ["purse", "many"] (spD M 2 F__law_draw) :=
  (fn_body (k := 1) (N := ["purse", "many", "drawn", "found", "piece"]) (ps := ["purse", "many"]) (kp := [0, 1]) (raw := false) F sc__law_draw (by decide) fun W X ok =>
    (okB_cons (ok_if (okT_ord rfl (ok_sub_ ok (fun _ _ => rfl) (ok_name ok ⟨by rfl, by kernel_rfl, by decide, by decide⟩) lit_int) lit_int) (okB_cons (ok_set ok (by rfl) (by kernel_rfl) (by decide) (ok_mod (ok_sub_ ok (fun _ _ => rfl) (ok_name ok ⟨by rfl, by kernel_rfl, by decide, by decide⟩) lit_int) (ok_name ok ⟨by rfl, by kernel_rfl, by decide, by decide⟩)) (swaps_no rfl))
      (okB_cons (ok_setI ok ⟨by rfl, by kernel_rfl, by decide, by decide⟩ (ok_div (ok_sub_ ok (fun _ _ => rfl) (ok_name ok ⟨by rfl, by kernel_rfl, by decide, by decide⟩) lit_int) (ok_name ok ⟨by rfl, by kernel_rfl, by decide, by decide⟩)) lit_int rfl (fun _ => rfl) rfl rfl)
      (okB_one (ok_ret (ok_name ok ⟨by rfl, by kernel_rfl, by decide, by decide⟩))))) okB_nil)
      (okB_cons (ok_set ok (by rfl) (by kernel_rfl) (by decide) lit_int (swaps_no rfl))
      (okB_cons (ok_for ok (okI_rng1 ok (by kernel_rfl) T.mg_range (okL_cons (ok_add ok lit_int (ok_div (ok_bits (ok_name ok ⟨by rfl, by kernel_rfl, by decide, by decide⟩) rfl rfl) lit_int)) okL_nil (star_cons rfl)) rfl) (okG_name ok (by rfl) (by kernel_rfl) (by decide +kernel)) (okB_cons (ok_setI ok ⟨by rfl, by kernel_rfl, by decide, by decide⟩ (ok_add ok (ok_sub_ ok (fun _ _ => rfl) (ok_name ok ⟨by rfl, by kernel_rfl, by decide, by decide⟩) lit_int) lit_int) lit_int rfl (fun _ => rfl) rfl rfl)
      (okB_one (ok_set ok (by rfl) (by kernel_rfl) (by decide) (ok_add ok (ok_mul (ok_name ok ⟨by rfl, by kernel_rfl, by decide, by decide⟩) lit_int) (ok_callN ok (by kernel_rfl) T.gl__law_mixed T.kp__law_mixed (by decide) (cb__law_mixed T (by decide)) rfl rfl (by decide) (okL_cons (ok_sub_ ok (fun _ _ => rfl) (ok_name ok ⟨by rfl, by kernel_rfl, by decide, by decide⟩) lit_int) (okL_cons (ok_sub_ ok (fun _ _ => rfl) (ok_name ok ⟨by rfl, by kernel_rfl, by decide, by decide⟩) lit_int) (okL_cons (ok_sub_ ok (fun _ _ => rfl) (ok_name ok ⟨by rfl, by kernel_rfl, by decide, by decide⟩) lit_int) okL_nil (star_cons rfl)) (star_cons rfl)) (star_cons rfl)))) (swaps_no rfl)))) rfl)
      (okB_one (ok_ret (ok_mod (ok_name ok ⟨by rfl, by kernel_rfl, by decide, by decide⟩) (ok_name ok ⟨by rfl, by kernel_rfl, by decide, by decide⟩))))))))
theorem cb__law_draw (T : Tx M) {k : Nat} (h : 2 ≤ k) : Cb M k (He.fAd M.K ("_law_draw", none)) i__law_draw.F i__law_draw.n i__law_draw.df := by
  obtain ⟨fd, F⟩ := T.fn__law_draw
  exact Cb.mono (Cb.of (g__law_draw T F) (F.bindsN fun _ _ _ _ _ _ us hl => match us, hl with | [_, _], _ => rfl)) h
theorem sc__law_one_of : FnScope ["purse", "some"] ["purse", "some"] (defScope st__law_one_of) := ⟨rfl, rfl, rfl, by decide +kernel, rfl, by decide +kernel, by decide +kernel⟩
theorem g__law_one_of (T : Tx M) {fd : FuncData} (F : FunD M.K "_law_one_of" "_law_one_of" (defArgs st__law_one_of) (defBody st__law_one_of) (defScope st__law_one_of) [] [] (He.fAd M.K ("_law_one_of", none)) fd) : FnG M.prog M.w M.K M.mg M.base 3 (He.fAd M.K ("_law_one_of", none)) fd ["purse", "some"] (spD M 2 F__law_one_of) :=
  (fn_body (k := 2) (N := ["purse", "some"]) (ps := ["purse", "some"]) (kp := [0, 1]) (raw := false) F sc__law_one_of (by decide) fun W X ok =>
    (okB_one (ok_ret (ok_sub_ ok (fun _ _ => rfl) (ok_name ok ⟨by rfl, by kernel_rfl, by decide, by decide⟩) (ok_callN ok (by kernel_rfl) T.gl__law_draw T.kp__law_draw (by decide) (cb__law_draw T (by decide)) rfl rfl (by decide) (okL_cons (ok_name ok ⟨by rfl, by kernel_rfl, by decide, by decide⟩) (okL_cons (ok_len ok ⟨by kernel_rfl, T.mg_len, bo_len, by decide, by decide⟩ (okL_cons (ok_name ok ⟨by rfl, by kernel_rfl, by decide, by decide⟩) okL_nil (star_cons rfl)) rfl) okL_nil (star_cons rfl)) (star_cons rfl)))))))
theorem cb__law_one_of (T : Tx M) {k : Nat} (h : 3 ≤ k) : Cb M k (He.fAd M.K ("_law_one_of", none)) i__law_one_of.F i__law_one_of.n i__law_one_of.df := by
  obtain ⟨fd, F⟩ := T.fn__law_one_of
  exact Cb.mono (Cb.of (g__law_one_of T F) (F.bindsN fun _ _ _ _ _ _ us hl => match us, hl with | [_, _], _ => rfl)) h
theorem sc__law_corners : FnScope ["purse", "most", "found", "now", "turn"] ["purse", "most"] (defScope st__law_corners) := ⟨rfl, rfl, rfl, by decide +kernel, rfl, by decide +kernel, by decide +kernel⟩
theorem g__law_corners (T : Tx M) {fd : FuncData} (F : FunD M.K "_law_corners" "_law_corners" (defArgs st__law_corners) (defBody st__law_corners) (defScope st__law_corners) [] [] (He.fAd M.K ("_law_corners", none)) fd) : FnG M.prog M.w M.K M.mg M.base 4 (He.fAd M.K ("_law_corners", none)) fd ["purse", "most"] (spD M 2 F__law_corners) :=
  (fn_body (k := 3) (N := ["purse", "most", "found", "now", "turn"]) (ps := ["purse", "most"]) (kp := [0, 1]) (raw := true) F sc__law_corners (by decide) fun W X ok =>
    (okB_cons (ok_par' ok (by rfl) (by rfl) (by decide) (by kernel_rfl) (by kernel_rfl) (by decide) (by decide) (okL_cons (ok_list okL_nil) (okL_cons (ok_callN ok (by kernel_rfl) T.gl__law_one_of T.kp__law_one_of (by decide) (cb__law_one_of T (by decide)) rfl rfl (by decide) (okL_cons (ok_name ok ⟨by rfl, by kernel_rfl, by decide, by decide⟩) (okL_cons (ok_list (okL_cons lit_int (okL_cons lit_int (okL_cons lit_int (okL_cons lit_int okL_nil (star_cons rfl)) (star_cons rfl)) (star_cons rfl)) (star_cons rfl))) okL_nil (star_cons rfl)) (star_cons rfl))) okL_nil (star_cons rfl)) (star_cons rfl)) rfl)
      (okB_cons (ok_for ok (okI_rng1 ok (by kernel_rfl) T.mg_range (okL_cons (ok_callN ok (by kernel_rfl) T.gl__law_draw T.kp__law_draw (by decide) (cb__law_draw T (by decide)) rfl rfl (by decide) (okL_cons (ok_name ok ⟨by rfl, by kernel_rfl, by decide, by decide⟩) (okL_cons (ok_add ok (ok_name ok ⟨by rfl, by kernel_rfl, by decide, by decide⟩) lit_int) okL_nil (star_cons rfl)) (star_cons rfl))) okL_nil (star_cons rfl)) rfl) (okG_name ok (by rfl) (by kernel_rfl) (by decide +kernel)) (okB_cons (ok_expr (ok_append ok ⟨by rfl, by kernel_rfl, by decide, by decide⟩ (ok_name ok ⟨by rfl, by kernel_rfl, by decide, by decide⟩) rfl rfl) rfl)
      (okB_one (ok_set ok (by rfl) (by kernel_rfl) (by decide) (ok_add ok (ok_add ok (ok_name ok ⟨by rfl, by kernel_rfl, by decide, by decide⟩) lit_int) (ok_callN ok (by kernel_rfl) T.gl__law_draw T.kp__law_draw (by decide) (cb__law_draw T (by decide)) rfl rfl (by decide) (okL_cons (ok_name ok ⟨by rfl, by kernel_rfl, by decide, by decide⟩) (okL_cons lit_int okL_nil (star_cons rfl)) (star_cons rfl)))) (swaps_no rfl)))) rfl)
      (okB_one (ok_retM (ok_name ok ⟨by rfl, by kernel_rfl, by decide, by decide⟩))))))
theorem cb__law_corners (T : Tx M) {k : Nat} (h : 4 ≤ k) : Cb M k (He.fAd M.K ("_law_corners", none)) i__law_corners.F i__law_corners.n i__law_corners.df := by
  obtain ⟨fd, F⟩ := T.fn__law_corners
  exact Cb.mono (Cb.of (g__law_corners T F) (F.bindsN fun _ _ _ _ _ _ us hl => match us, hl with | [_, _], _ => rfl)) h
theorem sc__law_stair : FnScope ["purse", "most"] ["purse", "most"] (defScope st__law_stair) := ⟨rfl, rfl, rfl, by decide +kernel, rfl, by decide +kernel, by decide +kernel⟩
theorem g__law_stair (T : Tx M) {fd : FuncData} (F : FunD M.K "_law_stair" "_law_stair" (defArgs st__law_stair) (defBody st__law_stair) (defScope st__law_stair) [] [] (He.fAd M.K ("_law_stair", none)) fd) : FnG M.prog M.w M.K M.mg M.base 5 (He.fAd M.K ("_law_stair", none)) fd ["purse", "most"] (spD M 2 F__law_stair) :=
  (fn_body (k := 4) (N := ["purse", "most"]) (ps := ["purse", "most"]) (kp := [0, 1]) (raw := true) F sc__law_stair (by decide) fun W X ok =>
    (okB_one (ok_ret (ok_tup (okL_cons (ok_sub (ok_callN ok (by kernel_rfl) T.gl__law_draw T.kp__law_draw (by decide) (cb__law_draw T (by decide)) rfl rfl (by decide) (okL_cons (ok_name ok ⟨by rfl, by kernel_rfl, by decide, by decide⟩) (okL_cons lit_int okL_nil (star_cons rfl)) (star_cons rfl))) (ok_callN ok (by kernel_rfl) T.gl__law_draw T.kp__law_draw (by decide) (cb__law_draw T (by decide)) rfl rfl (by decide) (okL_cons (ok_name ok ⟨by rfl, by kernel_rfl, by decide, by decide⟩) (okL_cons lit_int okL_nil (star_cons rfl)) (star_cons rfl)))) (okL_cons (ok_callN ok (by kernel_rfl) T.gl__law_corners T.kp__law_corners (by decide) (cb__law_corners T (by decide)) rfl rfl (by decide) (okL_cons (ok_name ok ⟨by rfl, by kernel_rfl, by decide, by decide⟩) (okL_cons (ok_name ok ⟨by rfl, by kernel_rfl, by decide, by decide⟩) okL_nil (star_cons rfl)) (star_cons rfl))) okL_nil (star_cons rfl)) (star_cons rfl))))))
theorem cb__law_stair (T : Tx M) {k : Nat} (h : 5 ≤ k) : Cb M k (He.fAd M.K ("_law_stair", none)) i__law_stair.F i__law_stair.n i__law_stair.df := by
  obtain ⟨fd, F⟩ := T.fn__law_stair
  exact Cb.mono (Cb.of (g__law_stair T F) (F.bindsN fun _ _ _ _ _ _ us hl => match us, hl with | [_, _], _ => rfl)) h
theorem sc_is_whole : FnScope ["value"] ["value"] (defScope st_is_whole) := ⟨rfl, rfl, rfl, by decide +kernel, rfl, by decide +kernel, by decide +kernel⟩
theorem g_is_whole (T : Tx M) {fd : FuncData} (F : FunD M.K "is_whole" "is_whole" (defArgs st_is_whole) (defBody st_is_whole) (defScope st_is_whole) [] [] (He.fAd M.K ("is_whole", none)) fd) : FnG M.prog M.w M.K M.mg M.base 1 (He.fAd M.K ("is_whole", none)) fd ["value"] (spD M 1 F_is_whole) :=
  (fn_body (k := 0) (N := ["value"]) (ps := ["value"]) (kp := [0]) (raw := false) F sc_is_whole (by decide) fun W X ok =>
    (okB_one (ok_ret (ok_and (ok_isi ok ⟨by kernel_rfl, T.mg_isinstance, bo_isinstance, by decide, by decide⟩ (pe_tyN ok ⟨by kernel_rfl, T.mg_int, bo_int, by decide, by decide⟩) (.ty _) T.is_int (ok_name ok ⟨by rfl, by kernel_rfl, by decide, by decide⟩) rfl rfl) (ok_one (ok_not (ok_isi ok ⟨by kernel_rfl, T.mg_isinstance, bo_isinstance, by decide, by decide⟩ (pe_tyN ok ⟨by kernel_rfl, T.mg_bool, bo_bool, by decide, by decide⟩) (.ty _) T.is_bool (ok_name ok ⟨by rfl, by kernel_rfl, by decide, by decide⟩) rfl rfl)))))))
theorem cb_is_whole (T : Tx M) {k : Nat} (h : 1 ≤ k) : Cb M k (He.fAd M.K ("is_whole", none)) i_is_whole.F i_is_whole.n i_is_whole.df := by
  obtain ⟨fd, F⟩ := T.fn_is_whole
  exact Cb.mono (Cb.of (g_is_whole T F) (F.bindsN fun _ _ _ _ _ _ us hl => match us, hl with | [_], _ => rfl)) h
theorem sc_check_whole : FnScope ["value"] ["value"] (defScope st_check_whole) := ⟨rfl, rfl, rfl, by decide +kernel, rfl, by decide +kernel, by decide +kernel⟩
theorem g_check_whole (T : Tx M) {fd : FuncData} (F : FunD M.K "check_whole" "check_whole" (defArgs st_check_whole) (defBody st_check_whole) (defScope st_check_whole) [] [] (He.fAd M.K ("check_whole", none)) fd) : FnG M.prog M.w M.K M.mg M.base 2 (He.fAd M.K ("check_whole", none)) fd ["value"] (spD M 1 F_check_whole) :=
  (fn_body (k := 1) (N := ["value"]) (ps := ["value"]) (kp := [0]) (raw := false) F sc_check_whole (by decide) fun W X ok =>
    (okB_one (ok_if (okT_not (okT_tru ok (ok_callN ok (by kernel_rfl) T.gl_is_whole T.kp_is_whole (by decide) (cb_is_whole T (by decide)) rfl rfl (by decide) (okL_cons (ok_name ok ⟨by rfl, by kernel_rfl, by decide, by decide⟩) okL_nil (star_cons rfl))) rfl)) (okB_one ok_never) okB_nil)))
theorem cb_check_whole (T : Tx M) {k : Nat} (h : 2 ≤ k) : Cb M k (He.fAd M.K ("check_whole", none)) i_check_whole.F i_check_whole.n i_check_whole.df := by
  obtain ⟨fd, F⟩ := T.fn_check_whole
  exact Cb.mono (Cb.of (g_check_whole T F) (F.bindsN fun _ _ _ _ _ _ us hl => match us, hl with | [_], _ => rfl)) h
theorem sc_is_count : FnScope ["value"] ["value"] (defScope st_is_count) := ⟨rfl, rfl, rfl, by decide +kernel, rfl, by decide +kernel, by decide +kernel⟩
theorem g_is_count (T : Tx M) {fd : FuncData} (F : FunD M.K "is_count" "is_count" (defArgs st_is_count) (defBody st_is_count) (defScope st_is_count) [] [] (He.fAd M.K ("is_count", none)) fd) : FnG M.prog M.w M.K M.mg M.base 2 (He.fAd M.K ("is_count", none)) fd ["value"] (spD M 1 F_is_count) :=
  (fn_body (k := 1) (N := ["value"]) (ps := ["value"]) (kp := [0]) (raw := false) F sc_is_count (by decide) fun W X ok =>
    (okB_one (ok_ret (ok_and (ok_callN ok (by kernel_rfl) T.gl_is_whole T.kp_is_whole (by decide) (cb_is_whole T (by decide)) rfl rfl (by decide) (okL_cons (ok_name ok ⟨by rfl, by kernel_rfl, by decide, by decide⟩) okL_nil (star_cons rfl))) (ok_one (ok_ord rfl (ok_name ok ⟨by rfl, by kernel_rfl, by decide, by decide⟩) lit_int))))))
theorem cb_is_count (T : Tx M) {k : Nat} (h : 2 ≤ k) : Cb M k (He.fAd M.K ("is_count", none)) i_is_count.F i_is_count.n i_is_count.df := by
  obtain ⟨fd, F⟩ := T.fn_is_count
  exact Cb.mono (Cb.of (g_is_count T F) (F.bindsN fun _ _ _ _ _ _ us hl => match us, hl with | [_], _ => rfl)) h
theorem sc_are_corners : FnScope ["value", "corner", "at"] ["value"] (defScope st_are_corners) := ⟨rfl, rfl, rfl, by decide +kernel, rfl, by decide +kernel, by decide +kernel⟩
theorem g_are_corners (T : Tx M) {fd : FuncData} (F : FunD M.K "are_corners" "are_corners" (defArgs st_are_corners) (defBody st_are_corners) (defScope st_are_corners) [] [] (He.fAd M.K ("are_corners", none)) fd) : FnG M.prog M.w M.K M.mg M.base 3 (He.fAd M.K ("are_corners", none)) fd ["value"] (spD M 1 F_are_corners) :=
  (fn_body (k := 2) (N := ["value", "corner", "at"]) (ps := ["value"]) (kp := [0]) (raw := false) F sc_are_corners (by decide) fun W X ok =>
    (okB_cons (ok_if (OkW.t (okW_or (okT_not (okT_tru ok (ok_isi ok ⟨by kernel_rfl, T.mg_isinstance, bo_isinstance, by decide, by decide⟩ (pe_tyN ok ⟨by kernel_rfl, T.mg_list, bo_list, by decide, by decide⟩) (.ty _) T.is_list (ok_name ok ⟨by rfl, by kernel_rfl, by decide, by decide⟩) rfl rfl) rfl)) (okW_or1 (okT_ne ok (ok_lc (own := [("corner", 1)]) ok (okI_seq ok (ok_name ok ⟨by rfl, by kernel_rfl, by decide, by decide⟩)) (by kernel_rfl) (fun _ ok' => ⟨(okG_name ok' (by rfl) (by kernel_rfl) (by decide +kernel)), (okTs_one (okT_not (okT_tru ok' (ok_callN ok' (by kernel_rfl) T.gl_is_count T.kp_is_count (by decide) (cb_is_count T (by decide)) rfl rfl (by decide) (okL_cons (ok_name ok' ⟨by rfl, by kernel_rfl, by decide, by decide⟩) okL_nil (star_cons rfl))) rfl))), (ok_name ok' ⟨by rfl, by kernel_rfl, by decide, by decide⟩)⟩) rfl) (ok_list okL_nil))))) (okB_one (ok_ret lit_bl)) okB_nil)
      (okB_one (ok_ret (ok_eq ok (ok_lc (own := [("at", 2)]) ok (okI_rng2 ok (by kernel_rfl) T.mg_range (okL_cons lit_int (okL_cons (ok_len ok ⟨by kernel_rfl, T.mg_len, bo_len, by decide, by decide⟩ (okL_cons (ok_name ok ⟨by rfl, by kernel_rfl, by decide, by decide⟩) okL_nil (star_cons rfl)) rfl) okL_nil (star_cons rfl)) (star_cons rfl)) rfl rfl) (by kernel_rfl) (fun _ ok' => ⟨(okG_name ok' (by rfl) (by kernel_rfl) (by decide +kernel)), (okTs_one (okT_ord rfl (ok_sub_ ok' (fun _ _ => rfl) (ok_name ok' ⟨by rfl, by kernel_rfl, by decide, by decide⟩) (ok_name ok' ⟨by rfl, by kernel_rfl, by decide, by decide⟩)) (ok_sub_ ok' (fun _ _ => rfl) (ok_name ok' ⟨by rfl, by kernel_rfl, by decide, by decide⟩) (ok_sub (ok_name ok' ⟨by rfl, by kernel_rfl, by decide, by decide⟩) lit_int)))), (ok_name ok' ⟨by rfl, by kernel_rfl, by decide, by decide⟩)⟩) rfl) (ok_list okL_nil))))))
theorem cb_are_corners (T : Tx M) {k : Nat} (h : 3 ≤ k) : Cb M k (He.fAd M.K ("are_corners", none)) i_are_corners.F i_are_corners.n i_are_corners.df := by
  obtain ⟨fd, F⟩ := T.fn_are_corners
  exact Cb.mono (Cb.of (g_are_corners T F) (F.bindsN fun _ _ _ _ _ _ us hl => match us, hl with | [_], _ => rfl)) h
theorem sc_Stair_init : FnScope ["self", "begin", "corners"] ["self", "begin", "corners"] (defScope st_Stair_init) := ⟨rfl, rfl, rfl, by decide +kernel, rfl, by decide +kernel, by decide +kernel⟩
theorem g_Stair_init (T : Tx M) {fd : FuncData} (F : FunD M.K "__init__" "Stair.__init__" (defArgs st_Stair_init) (defBody st_Stair_init) (defScope st_Stair_init) [] [] (He.fAd M.K ("Stair", some "__init__")) fd) : FnG M.prog M.w M.K M.mg M.base 4 (He.fAd M.K ("Stair", some "__init__")) fd ["self", "begin", "corners"] (spD M 3 F_Stair_init) :=
  (fn_body (k := 3) (N := ["self", "begin", "corners"]) (ps := ["self", "begin", "corners"]) (kp := [0, 1, 2]) (raw := false) F sc_Stair_init (by decide) fun W X ok =>
    (okB_cons (ok_expr (ok_callN ok (by kernel_rfl) T.gl_check_whole T.kp_check_whole (by decide) (cb_check_whole T (by decide)) rfl rfl (by decide) (okL_cons (ok_name ok ⟨by rfl, by kernel_rfl, by decide, by decide⟩) okL_nil (star_cons rfl))) rfl)
      (okB_cons (ok_if (okT_not (okT_pure (okT_tru ok (ok_callN ok (by kernel_rfl) T.gl_are_corners T.kp_are_corners (by decide) (cb_are_corners T (by decide)) rfl rfl (by decide) (okL_cons (ok_name ok ⟨by rfl, by kernel_rfl, by decide, by decide⟩) okL_nil (star_cons rfl))) rfl))) (okB_one ok_never) okB_nil)
      (okB_cons (ok_setF ok ⟨by rfl, by kernel_rfl, by decide, by decide⟩ T.fc_base (ok_name ok ⟨by rfl, by kernel_rfl, by decide, by decide⟩) rfl)
      (okB_one (ok_setF ok ⟨by rfl, by kernel_rfl, by decide, by decide⟩ T.fc_turns (ok_tupleOf ok ⟨by kernel_rfl, T.mg_tuple, bo_tuple, by decide, by decide⟩ (okL_cons (ok_name ok ⟨by rfl, by kernel_rfl, by decide, by decide⟩) okL_nil (star_cons rfl)) rfl) rfl))))))
theorem cb_Stair_init (T : Tx M) {k : Nat} (h : 4 ≤ k) : Cb M k (He.fAd M.K ("Stair", some "__init__")) i_Stair_init.F i_Stair_init.n i_Stair_init.df := by
  obtain ⟨fd, F⟩ := T.fn_Stair_init
  exact Cb.mono (Cb.of (g_Stair_init T F) (F.bindsN fun _ _ _ _ _ _ us hl => match us, hl with | [_, _, _], _ => rfl)) h
theorem sc_Stair_eq : FnScope ["self", "other"] ["self", "other"] (defScope st_Stair_eq) := ⟨rfl, rfl, rfl, by decide +kernel, rfl, by decide +kernel, by decide +kernel⟩
theorem g_Stair_eq (T : Tx M) {fd : FuncData} (F : FunD M.K "__eq__" "Stair.__eq__" (defArgs st_Stair_eq) (defBody st_Stair_eq) (defScope st_Stair_eq) [] [] (He.fAd M.K ("Stair", some "__eq__")) fd) : FnG M.prog M.w M.K M.mg M.base 1 (He.fAd M.K ("Stair", some "__eq__")) fd ["self", "other"] (spD M 2 F_Stair_eq) :=
  (fn_body (k := 0) (N := ["self", "other"]) (ps := ["self", "other"]) (kp := [0, 1]) (raw := false) F sc_Stair_eq (by decide) fun W X ok =>
    (okB_one (ok_ret (ok_and (ok_isi ok ⟨by kernel_rfl, T.mg_isinstance, bo_isinstance, by decide, by decide⟩ (pe_clsN (c := 0) ok (by kernel_rfl) T.gl_Stair (by decide)) (.own _) T.is_Stair (ok_name ok ⟨by rfl, by kernel_rfl, by decide, by decide⟩) rfl rfl) (ok_and (ok_eq ok (ok_attr ok T.fc_base (fun _ _ z => nomatch z) (ok_name ok ⟨by rfl, by kernel_rfl, by decide, by decide⟩) rfl) (ok_attr ok T.fc_base (fun _ _ z => nomatch z) (ok_name ok ⟨by rfl, by kernel_rfl, by decide, by decide⟩) rfl)) (ok_one (ok_eq ok (ok_attr ok T.fc_turns (fun _ _ z => nomatch z) (ok_name ok ⟨by rfl, by kernel_rfl, by decide, by decide⟩) rfl) (ok_attr ok T.fc_turns (fun _ _ z => nomatch z) (ok_name ok ⟨by rfl, by kernel_rfl, by decide, by decide⟩) rfl))))))))
theorem cb_Stair_eq (T : Tx M) {k : Nat} (h : 1 ≤ k) : Cb M k (He.fAd M.K ("Stair", some "__eq__")) i_Stair_eq.F i_Stair_eq.n i_Stair_eq.df := by
  obtain ⟨fd, F⟩ := T.fn_Stair_eq
  exact Cb.mono (Cb.of (g_Stair_eq T F) (F.bindsN fun _ _ _ _ _ _ us hl => match us, hl with | [_, _], _ => rfl)) h
theorem neT_ok (T : Tx M) {k : Nat} (h : 1 ≤ k) : NeOk M k eqT := by
  intro c i e
  match c, e with
  | 0, e =>
    cases e
    exact ⟨_, T.me_Stair___eq__.at_, T.me_Stair___eq__.fn, T.ne_Stair.1, T.ne_Stair.2, cb_Stair_eq T (Nat.le_trans (by decide) h), by decide⟩
theorem tuT_ok (T : Tx M) {k : Nat} (h : 1 ≤ k) : TuOk M k eqT := by
  intro c i e
  match c, e with
  | 0, e =>
    cases e
    exact ⟨_, T.me_Stair___eq__.at_, T.me_Stair___eq__.fn, T.tu_Stair, cb_Stair_eq T (Nat.le_trans (by decide) h), by decide⟩
theorem eqT_ok (T : Tx M) {k : Nat} (h : 1 ≤ k) : EqOk M k eqT := by
  intro c i e
  match c, e with
  | 0, e =>
    cases e
    exact ⟨_, T.me_Stair___eq__.at_, T.me_Stair___eq__.fn, cb_Stair_eq T (Nat.le_trans (by decide) h), by decide⟩
theorem sc__law_near_right : FnScope ["begin", "corners", "stair", "some", "one"] ["begin", "corners"] (defScope st__law_near_right) := ⟨rfl, rfl, rfl, by decide +kernel, rfl, by decide +kernel, by decide +kernel⟩
theorem g__law_near_right (T : Tx M) {fd : FuncData} (F : FunD M.K "_law_near_right" "_law_near_right" (defArgs st__law_near_right) (defBody st__law_near_right) (defScope st__law_near_right) [] [] (He.fAd M.K ("_law_near_right", none)) fd) : FnG M.prog M.w M.K M.mg M.base 6 (He.fAd M.K ("_law_near_right", none)) fd ["begin", "corners"] (spD M 2 F__law_near_right) :=
  (fn_body (k := 5) (N := ["begin", "corners", "stair", "some", "one"]) (ps := ["begin", "corners"]) (kp := [0, 1]) (raw := false) F sc__law_near_right (by decide) fun W X ok =>
    (okB_cons (ok_set ok (by rfl) (by kernel_rfl) (by decide) (ok_makeN ok (by kernel_rfl) T.gl_Stair T.mk_Stair (by decide) (cb_Stair_init T (by decide)) rfl rfl (by decide) (okL_cons (ok_name ok ⟨by rfl, by kernel_rfl, by decide, by decide⟩) (okL_cons (ok_name ok ⟨by rfl, by kernel_rfl, by decide, by decide⟩) okL_nil (star_cons rfl)) (star_cons rfl))) (swaps_no rfl))
      (okB_cons (ok_set ok (by rfl) (by kernel_rfl) (by decide) (ok_list (okL_cons (ok_tup (okL_cons (ok_add ok (ok_name ok ⟨by rfl, by kernel_rfl, by decide, by decide⟩) lit_int) (okL_cons (ok_name ok ⟨by rfl, by kernel_rfl, by decide, by decide⟩) okL_nil (star_cons rfl)) (star_cons rfl))) (okL_cons (ok_tup (okL_cons (ok_name ok ⟨by rfl, by kernel_rfl, by decide, by decide⟩) (okL_cons (ok_slice ok (ok_name ok ⟨by rfl, by kernel_rfl, by decide, by decide⟩) trivial (ok_neg lit_int)) okL_nil (star_cons rfl)) (star_cons rfl))) (okL_cons (ok_tup (okL_cons (ok_name ok ⟨by rfl, by kernel_rfl, by decide, by decide⟩) (okL_cons (ok_slice ok (ok_name ok ⟨by rfl, by kernel_rfl, by decide, by decide⟩) lit_int trivial) okL_nil (star_cons rfl)) (star_cons rfl))) okL_nil (star_cons rfl)) (star_cons rfl)) (star_cons rfl))) (swaps_no rfl))
      (okB_cons (ok_set ok (by rfl) (by kernel_rfl) (by decide) (ok_add ok (ok_name ok ⟨by rfl, by kernel_rfl, by decide, by decide⟩) (ok_list (okL_cons (ok_tup (okL_cons (ok_name ok ⟨by rfl, by kernel_rfl, by decide, by decide⟩) (okL_cons (ok_add ok (ok_name ok ⟨by rfl, by kernel_rfl, by decide, by decide⟩) (ok_list (okL_cons (ok_add ok (ok_sub_ ok (fun _ _ => rfl) (ok_name ok ⟨by rfl, by kernel_rfl, by decide, by decide⟩) (ok_neg lit_int)) lit_int) okL_nil (star_cons rfl)))) okL_nil (star_cons rfl)) (star_cons rfl))) okL_nil (star_cons rfl)))) (swaps_no rfl))
      (okB_cons (ok_expr (ok_append ok ⟨by rfl, by kernel_rfl, by decide, by decide⟩ (ok_tup (okL_cons (ok_name ok ⟨by rfl, by kernel_rfl, by decide, by decide⟩) (okL_cons (ok_add ok (ok_slice ok (ok_name ok ⟨by rfl, by kernel_rfl, by decide, by decide⟩) trivial (ok_neg lit_int)) (ok_list (okL_cons (ok_add ok (ok_sub_ ok (fun _ _ => rfl) (ok_name ok ⟨by rfl, by kernel_rfl, by decide, by decide⟩) (ok_neg lit_int)) lit_int) okL_nil (star_cons rfl)))) okL_nil (star_cons rfl)) (star_cons rfl))) rfl rfl) rfl)
      (okB_one (ok_ret (ok_eq ok (ok_lc (own := [("one", 4)]) ok (okI_seq ok (ok_name ok ⟨by rfl, by kernel_rfl, by decide, by decide⟩)) (by kernel_rfl) (fun _ ok' => ⟨(okG_name ok' (by rfl) (by kernel_rfl) (by decide +kernel)), (okTs_one (OkW.t (okW_or (okT_eqO ok' (eqT_ok T (by decide)) (ok_name ok' ⟨by rfl, by kernel_rfl, by decide, by decide⟩) (ok_makeN ok' (by kernel_rfl) T.gl_Stair T.mk_Stair (by decide) (cb_Stair_init T (by decide)) rfl rfl (by decide) (okL_cons (ok_sub_ ok' (fun _ _ => rfl) (ok_name ok' ⟨by rfl, by kernel_rfl, by decide, by decide⟩) lit_int) (okL_cons (ok_sub_ ok' (fun _ _ => rfl) (ok_name ok' ⟨by rfl, by kernel_rfl, by decide, by decide⟩) lit_int) okL_nil (star_cons rfl)) (star_cons rfl)))) (okW_or1 (okT_not (okT_neO ok' (neT_ok T (by decide)) (ok_name ok' ⟨by rfl, by kernel_rfl, by decide, by decide⟩) (ok_makeN ok' (by kernel_rfl) T.gl_Stair T.mk_Stair (by decide) (cb_Stair_init T (by decide)) rfl rfl (by decide) (okL_cons (ok_sub_ ok' (fun _ _ => rfl) (ok_name ok' ⟨by rfl, by kernel_rfl, by decide, by decide⟩) lit_int) (okL_cons (ok_sub_ ok' (fun _ _ => rfl) (ok_name ok' ⟨by rfl, by kernel_rfl, by decide, by decide⟩) lit_int) okL_nil (star_cons rfl)) (star_cons rfl))))))))), (ok_name ok' ⟨by rfl, by kernel_rfl, by decide, by decide⟩)⟩) rfl) (ok_list okL_nil)))))))))
theorem cb__law_near_right (T : Tx M) {k : Nat} (h : 6 ≤ k) : Cb M k (He.fAd M.K ("_law_near_right", none)) i__law_near_right.F i__law_near_right.n i__law_near_right.df := by
  obtain ⟨fd, F⟩ := T.fn__law_near_right
  exact Cb.mono (Cb.of (g__law_near_right T F) (F.bindsN fun _ _ _ _ _ _ us hl => match us, hl with | [_, _], _ => rfl)) h
theorem sc__law_steps : FnScope ["begin", "corners", "many", "found", "count", "corner"] ["begin", "corners", "many"] (defScope st__law_steps) := ⟨rfl, rfl, rfl, by decide +kernel, rfl, by decide +kernel, by decide +kernel⟩
theorem g__law_steps (T : Tx M) {fd : FuncData} (F : FunD M.K "_law_steps" "_law_steps" (defArgs st__law_steps) (defBody st__law_steps) (defScope st__law_steps) [] [] (He.fAd M.K ("_law_steps", none)) fd) : FnG M.prog M.w M.K M.mg M.base 1 (He.fAd M.K ("_law_steps", none)) fd ["begin", "corners", "many"] (spD M 3 F__law_steps) :=
  (fn_body (k := 0) (N := ["begin", "corners", "many", "found", "count", "corner"]) (ps := ["begin", "corners", "many"]) (kp := [0, 1, 2]) (raw := false) F sc__law_steps (by decide) fun W X ok =>
    (okB_cons (ok_set ok (by rfl) (by kernel_rfl) (by decide) (ok_list (okL_cons (ok_name ok ⟨by rfl, by kernel_rfl, by decide, by decide⟩) okL_nil (star_cons rfl))) (swaps_no rfl))
      (okB_cons (ok_for ok (okI_rng1 ok (by kernel_rfl) T.mg_range (okL_cons (ok_name ok ⟨by rfl, by kernel_rfl, by decide, by decide⟩) okL_nil (star_cons rfl)) rfl) (okG_name ok (by rfl) (by kernel_rfl) (by decide +kernel)) (okB_one (ok_expr (ok_append ok ⟨by rfl, by kernel_rfl, by decide, by decide⟩ (ok_pure (ok_add ok (ok_sub_ ok (fun _ _ => rfl) (ok_name ok ⟨by rfl, by kernel_rfl, by decide, by decide⟩) (ok_neg lit_int)) (ok_mod (ok_len ok ⟨by kernel_rfl, T.mg_len, bo_len, by decide, by decide⟩ (okL_cons (ok_lc (own := [("corner", 5)]) ok (okI_seq ok (ok_name ok ⟨by rfl, by kernel_rfl, by decide, by decide⟩)) (by kernel_rfl) (fun _ ok' => ⟨(okG_name ok' (by rfl) (by kernel_rfl) (by decide +kernel)), (okTs_one (okT_ord rfl (ok_name ok' ⟨by rfl, by kernel_rfl, by decide, by decide⟩) (ok_name ok' ⟨by rfl, by kernel_rfl, by decide, by decide⟩))), (ok_name ok' ⟨by rfl, by kernel_rfl, by decide, by decide⟩)⟩) rfl) okL_nil (star_cons rfl)) rfl) lit_int))) rfl rfl) rfl)) rfl)
      (okB_one (ok_ret (ok_name ok ⟨by rfl, by kernel_rfl, by decide, by decide⟩))))))
theorem cb__law_steps (T : Tx M) {k : Nat} (h : 1 ≤ k) : Cb M k (He.fAd M.K ("_law_steps", none)) i__law_steps.F i__law_steps.n i__law_steps.df := by
  obtain ⟨fd, F⟩ := T.fn__law_steps
  exact Cb.mono (Cb.of (g__law_steps T F) (F.bindsN fun _ _ _ _ _ _ us hl => match us, hl with | [_, _, _], _ => rfl)) h
theorem sc_Stair_begin : FnScope ["self"] ["self"] (defScope st_Stair_begin) := ⟨rfl, rfl, rfl, by decide +kernel, rfl, by decide +kernel, by decide +kernel⟩
theorem g_Stair_begin (T : Tx M) {fd : FuncData} (F : FunD M.K "begin" "Stair.begin" (defArgs st_Stair_begin) (defBody st_Stair_begin) (defScope st_Stair_begin) [] [] (pAd M.K "Stair" "begin") fd) : FnG M.prog M.w M.K M.mg M.base 1 (pAd M.K "Stair" "begin") fd ["self"] (spD M 1 F_Stair_begin) :=
  (fn_body (k := 0) (N := ["self"]) (ps := ["self"]) (kp := [0]) (raw := false) F sc_Stair_begin (by decide) fun W X ok =>
    (okB_one (ok_ret (ok_attr ok T.fc_base (fun _ _ z => nomatch z) (ok_name ok ⟨by rfl, by kernel_rfl, by decide, by decide⟩) rfl))))
theorem cb_Stair_begin (T : Tx M) {k : Nat} (h : 1 ≤ k) : Cb M k (pAd M.K "Stair" "begin") i_Stair_begin.F i_Stair_begin.n i_Stair_begin.df := by
  obtain ⟨fd, F⟩ := T.fn_Stair_begin
  exact Cb.mono (Cb.of (g_Stair_begin T F) (F.bindsN fun _ _ _ _ _ _ us hl => match us, hl with | [_], _ => rfl)) h
theorem pt_begin_ok (T : Tx M) {k : Nat} (h : 1 ≤ k) : PtOk M (k + 1) "begin" pt_begin := by
  intro c i e
  match c, e with
  | 0, e =>
    cases e
    exact ⟨_, _, k, rfl, T.cls_0, T.pr_Stair_begin, cb_Stair_begin T (Nat.le_trans (by decide) h), by decide⟩
theorem sc_Stair_corners : FnScope ["self"] ["self"] (defScope st_Stair_corners) := ⟨rfl, rfl, rfl, by decide +kernel, rfl, by decide +kernel, by decide +kernel⟩
theorem g_Stair_corners (T : Tx M) {fd : FuncData} (F : FunD M.K "corners" "Stair.corners" (defArgs st_Stair_corners) (defBody st_Stair_corners) (defScope st_Stair_corners) [] [] (pAd M.K "Stair" "corners") fd) : FnG M.prog M.w M.K M.mg M.base 1 (pAd M.K "Stair" "corners") fd ["self"] (spD M 1 F_Stair_corners) :=
  (fn_body (k := 0) (N := ["self"]) (ps := ["self"]) (kp := [0]) (raw := true) F sc_Stair_corners (by decide) fun W X ok =>
    (okB_one (ok_ret (ok_listOf ok ⟨by kernel_rfl, T.mg_list, bo_list, by decide, by decide⟩ (okL_cons (ok_attr ok T.fc_turns (fun _ _ z => nomatch z) (ok_name ok ⟨by rfl, by kernel_rfl, by decide, by decide⟩) rfl) okL_nil (star_cons rfl)) rfl))))
theorem cb_Stair_corners (T : Tx M) {k : Nat} (h : 1 ≤ k) : Cb M k (pAd M.K "Stair" "corners") i_Stair_corners.F i_Stair_corners.n i_Stair_corners.df := by
  obtain ⟨fd, F⟩ := T.fn_Stair_corners
  exact Cb.mono (Cb.of (g_Stair_corners T F) (F.bindsN fun _ _ _ _ _ _ us hl => match us, hl with | [_], _ => rfl)) h
theorem pt_corners_ok (T : Tx M) {k : Nat} (h : 1 ≤ k) : PtOk M (k + 1) "corners" pt_corners := by
  intro c i e
  match c, e with
  | 0, e =>
    cases e
    exact ⟨_, _, k, rfl, T.cls_0, T.pr_Stair_corners, cb_Stair_corners T (Nat.le_trans (by decide) h), by decide⟩
theorem sc_check_count : FnScope ["value", "least", "most"] ["value", "least", "most"] (defScope st_check_count) := ⟨rfl, rfl, rfl, by decide +kernel, rfl, by decide +kernel, by decide +kernel⟩
theorem g_check_count (T : Tx M) {fd : FuncData} (F : FunD M.K "check_count" "check_count" (defArgs st_check_count) (defBody st_check_count) (defScope st_check_count) [.int 0, .non] [] (He.fAd M.K ("check_count", none)) fd) : FnG M.prog M.w M.K M.mg M.base 3 (He.fAd M.K ("check_count", none)) fd ["value", "least", "most"] (spD M 3 F_check_count) :=
  (fn_body (k := 2) (N := ["value", "least", "most"]) (ps := ["value", "least", "most"]) (kp := [0, 1, 2]) (raw := false) F sc_check_count (by decide) fun W X ok =>
    (okB_one (ok_if (OkW.t (okW_or (okT_not (okT_tru ok (ok_callN ok (by kernel_rfl) T.gl_is_count T.kp_is_count (by decide) (cb_is_count T (by decide)) rfl rfl (by decide) (okL_cons (ok_name ok ⟨by rfl, by kernel_rfl, by decide, by decide⟩) okL_nil (star_cons rfl))) rfl)) (okW_or (okT_ord rfl (ok_name ok ⟨by rfl, by kernel_rfl, by decide, by decide⟩) (ok_name ok ⟨by rfl, by kernel_rfl, by decide, by decide⟩)) (okW_or1 (OkW.t (okW_and (okT_notN (ok_name ok ⟨by rfl, by kernel_rfl, by decide, by decide⟩) lit_non) (okW_and1 (okT_ord rfl (ok_name ok ⟨by rfl, by kernel_rfl, by decide, by decide⟩) (ok_name ok ⟨by rfl, by kernel_rfl, by decide, by decide⟩))))))))) (okB_one ok_never) okB_nil)))
theorem cb_check_count (T : Tx M) {k : Nat} (h : 3 ≤ k) : Cb M k (He.fAd M.K ("check_count", none)) i_check_count.F i_check_count.n i_check_count.df := by
  obtain ⟨fd, F⟩ := T.fn_check_count
  refine Cb.mono (Cb.ofD (dvs := [.int 0, .non]) (g_check_count T F) (by simp [ConstD, RepD, i_check_count]) fun j hj => ?_) h
  match j, (show j ≤ 2 from hj) with
  | 0, _ =>
    refine FunD.binds1 F 1 0 (by simp) (by decide) fun _ _ _ _ _ _ _ us its h1 h2 => ?_
    match us, its, h1, h2 with
    | [_], [_, _], _, _ => exact ⟨_, rfl, rfl⟩
  | 1, _ =>
    refine FunD.binds1 F 2 1 (by simp) (by decide) fun _ _ _ _ _ _ _ us its h1 h2 => ?_
    match us, its, h1, h2 with
    | [_, _], [_, _], _, _ => exact ⟨_, rfl, rfl⟩
  | 2, _ =>
    refine FunD.binds1 F 3 2 (by simp) (by decide) fun _ _ _ _ _ _ _ us its h1 h2 => ?_
    match us, its, h1, h2 with
    | [_, _, _], [_, _], _, _ => exact ⟨_, rfl, rfl⟩
  | j + 3, hj => omega
theorem sc_Stair_rises : FnScope ["self", "found", "at", "behind"] ["self"] (defScope st_Stair_rises) := ⟨rfl, rfl, rfl, by decide +kernel, rfl, by decide +kernel, by decide +kernel⟩
theorem g_Stair_rises (T : Tx M) {fd : FuncData} (F : FunD M.K "rises" "Stair.rises" (defArgs st_Stair_rises) (defBody st_Stair_rises) (defScope st_Stair_rises) [] [] (He.fAd M.K ("Stair", some "rises")) fd) : FnG M.prog M.w M.K M.mg M.base 1 (He.fAd M.K ("Stair", some "rises")) fd ["self"] (spD M 1 F_Stair_rises) :=
  (fn_body (k := 0) (N := ["self", "found", "at", "behind"]) (ps := ["self"]) (kp := [0]) (raw := false) F sc_Stair_rises (by decide) fun W X ok =>
    (okB_cons (ok_set ok (by rfl) (by kernel_rfl) (by decide) (ok_list okL_nil) (swaps_no rfl))
      (okB_cons (ok_for ok (okI_rng3 ok (by kernel_rfl) T.mg_range (okL_cons lit_int (okL_cons (ok_len ok ⟨by kernel_rfl, T.mg_len, bo_len, by decide, by decide⟩ (okL_cons (ok_attr ok T.fc_turns (fun _ _ z => nomatch z) (ok_name ok ⟨by rfl, by kernel_rfl, by decide, by decide⟩) rfl) okL_nil (star_cons rfl)) rfl) (okL_cons lit_int okL_nil (star_cons rfl)) (star_cons rfl)) (star_cons rfl)) rfl) (okG_name ok (by rfl) (by kernel_rfl) (by decide +kernel)) (okB_cons (ok_set ok (by rfl) (by kernel_rfl) (by decide) (ok_listOf ok ⟨by kernel_rfl, T.mg_list, bo_list, by decide, by decide⟩ (okL_cons (ok_slice ok (ok_attr ok T.fc_turns (fun _ _ z => nomatch z) (ok_name ok ⟨by rfl, by kernel_rfl, by decide, by decide⟩) rfl) (ok_add ok (ok_name ok ⟨by rfl, by kernel_rfl, by decide, by decide⟩) lit_int) (ok_add ok (ok_name ok ⟨by rfl, by kernel_rfl, by decide, by decide⟩) lit_int)) okL_nil (star_cons rfl)) rfl) (swaps_no rfl))
      (okB_one (ok_expr (ok_append ok ⟨by rfl, by kernel_rfl, by decide, by decide⟩ (ok_tup (okL_cons (ok_sub_ ok (fun _ _ => rfl) (ok_attr ok T.fc_turns (fun _ _ z => nomatch z) (ok_name ok ⟨by rfl, by kernel_rfl, by decide, by decide⟩) rfl) (ok_name ok ⟨by rfl, by kernel_rfl, by decide, by decide⟩)) (okL_cons (ok_ite (okT_ne ok (ok_name ok ⟨by rfl, by kernel_rfl, by decide, by decide⟩) (ok_list okL_nil)) (ok_sub_ ok (fun _ _ => rfl) (ok_name ok ⟨by rfl, by kernel_rfl, by decide, by decide⟩) lit_int) lit_non) okL_nil (star_cons rfl)) (star_cons rfl))) rfl rfl) rfl))) rfl)
      (okB_one (ok_ret (ok_name ok ⟨by rfl, by kernel_rfl, by decide, by decide⟩))))))
theorem cb_Stair_rises (T : Tx M) {k : Nat} (h : 1 ≤ k) : Cb M k (He.fAd M.K ("Stair", some "rises")) i_Stair_rises.F i_Stair_rises.n i_Stair_rises.df := by
  obtain ⟨fd, F⟩ := T.fn_Stair_rises
  exact Cb.mono (Cb.of (g_Stair_rises T F) (F.bindsN fun _ _ _ _ _ _ us hl => match us, hl with | [_], _ => rfl)) h
theorem mt_rises_ok (T : Tx M) {k : Nat} (h : 1 ≤ k) : MtOk M k "rises" 0 mt_rises := by
  intro c i e
  match c, e with
  | 0, e =>
    cases e
    exact ⟨_, T.cls_0, T.me_Stair_rises, cb_Stair_rises T (Nat.le_trans (by decide) h), by decide⟩
theorem sc_Stair_height : FnScope ["self", "count", "found", "low", "high", "stop"] ["self", "count"] (defScope st_Stair_height) := ⟨rfl, rfl, rfl, by decide +kernel, rfl, by decide +kernel, by decide +kernel⟩
theorem g_Stair_height (T : Tx M) {fd : FuncData} (F : FunD M.K "height" "Stair.height" (defArgs st_Stair_height) (defBody st_Stair_height) (defScope st_Stair_height) [] [] (He.fAd M.K ("Stair", some "height")) fd) : FnG M.prog M.w M.K M.mg M.base 2 (He.fAd M.K ("Stair", some "height")) fd ["self", "count"] (spD M 2 F_Stair_height) :=
  (fn_body (k := 1) (N := ["self", "count", "found", "low", "high", "stop"]) (ps := ["self", "count"]) (kp := [0, 1]) (raw := false) F sc_Stair_height (by decide) fun W X ok =>
    (okB_cons (ok_set ok (by rfl) (by kernel_rfl) (by decide) (ok_attr ok T.fc_base (fun _ _ z => nomatch z) (ok_name ok ⟨by rfl, by kernel_rfl, by decide, by decide⟩) rfl) (swaps_no rfl))
      (okB_cons (ok_for ok (okI_seq ok (ok_meth0 ok (mt_rises_ok T (by decide)) (ok_name ok ⟨by rfl, by kernel_rfl, by decide, by decide⟩) rfl rfl)) (okG_tup ok (okGs_cons (okG_name ok (by rfl) (by kernel_rfl) (by decide +kernel)) (okGs_cons (okG_name ok (by rfl) (by kernel_rfl) (by decide +kernel)) okGs_nil rfl) rfl) rfl (fun _ _ _ h => gs_cons (gs_cons (gs_nil)) h)) (okB_cons (ok_set ok (by rfl) (by kernel_rfl) (by decide) (ok_ite (okT_isN (ok_name ok ⟨by rfl, by kernel_rfl, by decide, by decide⟩) lit_non) (ok_name ok ⟨by rfl, by kernel_rfl, by decide, by decide⟩) (ok_min2 ok ⟨by kernel_rfl, T.mg_min, bo_min, by decide, by decide⟩ (okL_cons (ok_name ok ⟨by rfl, by kernel_rfl, by decide, by decide⟩) (okL_cons (ok_name ok ⟨by rfl, by kernel_rfl, by decide, by decide⟩) okL_nil (star_cons rfl)) (star_cons rfl)) rfl)) (swaps_no rfl))
      (okB_one (ok_set ok (by rfl) (by kernel_rfl) (by decide) (ok_add ok (ok_name ok ⟨by rfl, by kernel_rfl, by decide, by decide⟩) (ok_max2 ok ⟨by kernel_rfl, T.mg_max, bo_max, by decide, by decide⟩ (okL_cons (ok_sub (ok_name ok ⟨by rfl, by kernel_rfl, by decide, by decide⟩) (ok_name ok ⟨by rfl, by kernel_rfl, by decide, by decide⟩)) (okL_cons lit_int okL_nil (star_cons rfl)) (star_cons rfl)) rfl)) (swaps_no rfl)))) rfl)
      (okB_one (ok_ret (ok_name ok ⟨by rfl, by kernel_rfl, by decide, by decide⟩))))))
theorem cb_Stair_height (T : Tx M) {k : Nat} (h : 2 ≤ k) : Cb M k (He.fAd M.K ("Stair", some "height")) i_Stair_height.F i_Stair_height.n i_Stair_height.df := by
  obtain ⟨fd, F⟩ := T.fn_Stair_height
  exact Cb.mono (Cb.of (g_Stair_height T F) (F.bindsN fun _ _ _ _ _ _ us hl => match us, hl with | [_, _], _ => rfl)) h
theorem mt_height_ok (T : Tx M) {k : Nat} (h : 2 ≤ k) : MtOk M k "height" 1 mt_height := by
  intro c i e
  match c, e with
  | 0, e =>
    cases e
    exact ⟨_, T.cls_0, T.me_Stair_height, cb_Stair_height T (Nat.le_trans (by decide) h), by decide⟩
theorem sc_Stair_value : FnScope ["self", "count"] ["self", "count"] (defScope st_Stair_value) := ⟨rfl, rfl, rfl, by decide +kernel, rfl, by decide +kernel, by decide +kernel⟩
theorem g_Stair_value (T : Tx M) {fd : FuncData} (F : FunD M.K "value" "Stair.value" (defArgs st_Stair_value) (defBody st_Stair_value) (defScope st_Stair_value) [] [] (He.fAd M.K ("Stair", some "value")) fd) : FnG M.prog M.w M.K M.mg M.base 4 (He.fAd M.K ("Stair", some "value")) fd ["self", "count"] (spD M 2 F_Stair_value) :=
  (fn_body (k := 3) (N := ["self", "count"]) (ps := ["self", "count"]) (kp := [0, 1]) (raw := false) F sc_Stair_value (by decide) fun W X ok =>
    (okB_cons (ok_expr (ok_callN ok (by kernel_rfl) T.gl_check_count T.kp_check_count (by decide) (cb_check_count T (by decide)) rfl rfl (by decide) (okL_cons (ok_name ok ⟨by rfl, by kernel_rfl, by decide, by decide⟩) okL_nil (star_cons rfl))) rfl)
      (okB_one (ok_ret (ok_methN ok (mt_height_ok T (by decide)) (ok_name ok ⟨by rfl, by kernel_rfl, by decide, by decide⟩) rfl (okL_cons (ok_name ok ⟨by rfl, by kernel_rfl, by decide, by decide⟩) okL_nil (star_cons rfl)) rfl rfl (by decide) rfl)))))
theorem cb_Stair_value (T : Tx M) {k : Nat} (h : 4 ≤ k) : Cb M k (He.fAd M.K ("Stair", some "value")) i_Stair_value.F i_Stair_value.n i_Stair_value.df := by
  obtain ⟨fd, F⟩ := T.fn_Stair_value
  exact Cb.mono (Cb.of (g_Stair_value T F) (F.bindsN fun _ _ _ _ _ _ us hl => match us, hl with | [_, _], _ => rfl)) h
theorem mt_value_ok (T : Tx M) {k : Nat} (h : 4 ≤ k) : MtOk M k "value" 1 mt_value := by
  intro c i e
  match c, e with
  | 0, e =>
    cases e
    exact ⟨_, T.cls_0, T.me_Stair_value, cb_Stair_value T (Nat.le_trans (by decide) h), by decide⟩
theorem sc_Stair_end : FnScope ["self"] ["self"] (defScope st_Stair_end) := ⟨rfl, rfl, rfl, by decide +kernel, rfl, by decide +kernel, by decide +kernel⟩
theorem g_Stair_end (T : Tx M) {fd : FuncData} (F : FunD M.K "end" "Stair.end" (defArgs st_Stair_end) (defBody st_Stair_end) (defScope st_Stair_end) [] [] (He.fAd M.K ("Stair", some "end")) fd) : FnG M.prog M.w M.K M.mg M.base 3 (He.fAd M.K ("Stair", some "end")) fd ["self"] (spD M 1 F_Stair_end) :=
  (fn_body (k := 2) (N := ["self"]) (ps := ["self"]) (kp := [0]) (raw := false) F sc_Stair_end (by decide) fun W X ok =>
    (okB_cons (ok_if (okT_eq ok (ok_mod (ok_len ok ⟨by kernel_rfl, T.mg_len, bo_len, by decide, by decide⟩ (okL_cons (ok_attr ok T.fc_turns (fun _ _ z => nomatch z) (ok_name ok ⟨by rfl, by kernel_rfl, by decide, by decide⟩) rfl) okL_nil (star_cons rfl)) rfl) lit_int) lit_int) (okB_one (ok_ret lit_non)) okB_nil)
      (okB_one (ok_ret (ok_methN ok (mt_height_ok T (by decide)) (ok_name ok ⟨by rfl, by kernel_rfl, by decide, by decide⟩) rfl (okL_cons (ok_maxL ok ⟨by kernel_rfl, T.mg_max, bo_max, by decide, by decide⟩ (okL_cons (ok_add ok (ok_list (okL_cons lit_int okL_nil (star_cons rfl))) (ok_listOf ok ⟨by kernel_rfl, T.mg_list, bo_list, by decide, by decide⟩ (okL_cons (ok_attr ok T.fc_turns (fun _ _ z => nomatch z) (ok_name ok ⟨by rfl, by kernel_rfl, by decide, by decide⟩) rfl) okL_nil (star_cons rfl)) rfl)) okL_nil (star_cons rfl)) rfl) okL_nil (star_cons rfl)) rfl rfl (by decide) rfl)))))
theorem cb_Stair_end (T : Tx M) {k : Nat} (h : 3 ≤ k) : Cb M k (He.fAd M.K ("Stair", some "end")) i_Stair_end.F i_Stair_end.n i_Stair_end.df := by
  obtain ⟨fd, F⟩ := T.fn_Stair_end
  exact Cb.mono (Cb.of (g_Stair_end T F) (F.bindsN fun _ _ _ _ _ _ us hl => match us, hl with | [_], _ => rfl)) h
theorem mt_end_ok (T : Tx M) {k : Nat} (h : 3 ≤ k) : MtOk M k "end" 0 mt_end := by
  intro c i e
  match c, e with
  | 0, e =>
    cases e
    exact ⟨_, T.cls_0, T.me_Stair_end, cb_Stair_end T (Nat.le_trans (by decide) h), by decide⟩
theorem sc_Stair_last_at : FnScope ["self", "number", "level", "low", "high"] ["self", "number"] (defScope st_Stair_last_at) := ⟨rfl, rfl, rfl, by decide +kernel, rfl, by decide +kernel, by decide +kernel⟩
theorem g_Stair_last_at (T : Tx M) {fd : FuncData} (F : FunD M.K "last_at" "Stair.last_at" (defArgs st_Stair_last_at) (defBody st_Stair_last_at) (defScope st_Stair_last_at) [] [] (He.fAd M.K ("Stair", some "last_at")) fd) : FnG M.prog M.w M.K M.mg M.base 2 (He.fAd M.K ("Stair", some "last_at")) fd ["self", "number"] (spD M 2 F_Stair_last_at) :=
  (fn_body (k := 1) (N := ["self", "number", "level", "low", "high"]) (ps := ["self", "number"]) (kp := [0, 1]) (raw := false) F sc_Stair_last_at (by decide) fun W X ok =>
    (okB_cons (ok_if (okT_ord rfl (ok_attr ok T.fc_base (fun _ _ z => nomatch z) (ok_name ok ⟨by rfl, by kernel_rfl, by decide, by decide⟩) rfl) (ok_name ok ⟨by rfl, by kernel_rfl, by decide, by decide⟩)) (okB_one (ok_ret (ok_neg lit_int))) okB_nil)
      (okB_cons (ok_set ok (by rfl) (by kernel_rfl) (by decide) (ok_attr ok T.fc_base (fun _ _ z => nomatch z) (ok_name ok ⟨by rfl, by kernel_rfl, by decide, by decide⟩) rfl) (swaps_no rfl))
      (okB_cons (ok_for ok (okI_seq ok (ok_meth0 ok (mt_rises_ok T (by decide)) (ok_name ok ⟨by rfl, by kernel_rfl, by decide, by decide⟩) rfl rfl)) (okG_tup ok (okGs_cons (okG_name ok (by rfl) (by kernel_rfl) (by decide +kernel)) (okGs_cons (okG_name ok (by rfl) (by kernel_rfl) (by decide +kernel)) okGs_nil rfl) rfl) rfl (fun _ _ _ h => gs_cons (gs_cons (gs_nil)) h)) (okB_cons (ok_if (OkW.t (okW_or (okT_isN (ok_name ok ⟨by rfl, by kernel_rfl, by decide, by decide⟩) lit_non) (okW_or1 (okT_ord rfl (ok_sub (ok_add ok (ok_name ok ⟨by rfl, by kernel_rfl, by decide, by decide⟩) (ok_name ok ⟨by rfl, by kernel_rfl, by decide, by decide⟩)) (ok_name ok ⟨by rfl, by kernel_rfl, by decide, by decide⟩)) (ok_name ok ⟨by rfl, by kernel_rfl, by decide, by decide⟩))))) (okB_one (ok_ret (ok_sub (ok_add ok (ok_name ok ⟨by rfl, by kernel_rfl, by decide, by decide⟩) (ok_name ok ⟨by rfl, by kernel_rfl, by decide, by decide⟩)) (ok_name ok ⟨by rfl, by kernel_rfl, by decide, by decide⟩)))) okB_nil)
      (okB_one (ok_set ok (by rfl) (by kernel_rfl) (by decide) (ok_sub (ok_add ok (ok_name ok ⟨by rfl, by kernel_rfl, by decide, by decide⟩) (ok_name ok ⟨by rfl, by kernel_rfl, by decide, by decide⟩)) (ok_name ok ⟨by rfl, by kernel_rfl, by decide, by decide⟩)) (swaps_no rfl)))) rfl)
      (okB_one (ok_ret lit_non))))))
theorem cb_Stair_last_at (T : Tx M) {k : Nat} (h : 2 ≤ k) : Cb M k (He.fAd M.K ("Stair", some "last_at")) i_Stair_last_at.F i_Stair_last_at.n i_Stair_last_at.df := by
  obtain ⟨fd, F⟩ := T.fn_Stair_last_at
  exact Cb.mono (Cb.of (g_Stair_last_at T F) (F.bindsN fun _ _ _ _ _ _ us hl => match us, hl with | [_, _], _ => rfl)) h
theorem mt_last_at_ok (T : Tx M) {k : Nat} (h : 2 ≤ k) : MtOk M k "last_at" 1 mt_last_at := by
  intro c i e
  match c, e with
  | 0, e =>
    cases e
    exact ⟨_, T.cls_0, T.me_Stair_last_at, cb_Stair_last_at T (Nat.le_trans (by decide) h), by decide⟩
theorem sc_Stair_undone : FnScope ["self", "number"] ["self", "number"] (defScope st_Stair_undone) := ⟨rfl, rfl, rfl, by decide +kernel, rfl, by decide +kernel, by decide +kernel⟩
theorem g_Stair_undone (T : Tx M) {fd : FuncData} (F : FunD M.K "undone" "Stair.undone" (defArgs st_Stair_undone) (defBody st_Stair_undone) (defScope st_Stair_undone) [] [] (He.fAd M.K ("Stair", some "undone")) fd) : FnG M.prog M.w M.K M.mg M.base 3 (He.fAd M.K ("Stair", some "undone")) fd ["self", "number"] (spD M 2 F_Stair_undone) :=
  (fn_body (k := 2) (N := ["self", "number"]) (ps := ["self", "number"]) (kp := [0, 1]) (raw := false) F sc_Stair_undone (by decide) fun W X ok =>
    (okB_cons (ok_expr (ok_callN ok (by kernel_rfl) T.gl_check_whole T.kp_check_whole (by decide) (cb_check_whole T (by decide)) rfl rfl (by decide) (okL_cons (ok_name ok ⟨by rfl, by kernel_rfl, by decide, by decide⟩) okL_nil (star_cons rfl))) rfl)
      (okB_one (ok_ret (ok_methN ok (mt_last_at_ok T (by decide)) (ok_name ok ⟨by rfl, by kernel_rfl, by decide, by decide⟩) rfl (okL_cons (ok_name ok ⟨by rfl, by kernel_rfl, by decide, by decide⟩) okL_nil (star_cons rfl)) rfl rfl (by decide) rfl)))))
theorem cb_Stair_undone (T : Tx M) {k : Nat} (h : 3 ≤ k) : Cb M k (He.fAd M.K ("Stair", some "undone")) i_Stair_undone.F i_Stair_undone.n i_Stair_undone.df := by
  obtain ⟨fd, F⟩ := T.fn_Stair_undone
  exact Cb.mono (Cb.of (g_Stair_undone T F) (F.bindsN fun _ _ _ _ _ _ us hl => match us, hl with | [_, _], _ => rfl)) h
theorem mt_undone_ok (T : Tx M) {k : Nat} (h : 3 ≤ k) : MtOk M k "undone" 1 mt_undone := by
  intro c i e
  match c, e with
  | 0, e =>
    cases e
    exact ⟨_, T.cls_0, T.me_Stair_undone, cb_Stair_undone T (Nat.le_trans (by decide) h), by decide⟩
theorem sc__law_undone : FnScope ["steps", "number", "rises", "some", "count"] ["steps", "number", "rises"] (defScope st__law_undone) := ⟨rfl, rfl, rfl, by decide +kernel, rfl, by decide +kernel, by decide +kernel⟩
theorem g__law_undone (T : Tx M) {fd : FuncData} (F : FunD M.K "_law_undone" "_law_undone" (defArgs st__law_undone) (defBody st__law_undone) (defScope st__law_undone) [] [] (He.fAd M.K ("_law_undone", none)) fd) : FnG M.prog M.w M.K M.mg M.base 1 (He.fAd M.K ("_law_undone", none)) fd ["steps", "number", "rises"] (spD M 3 F__law_undone) :=
  (fn_body (k := 0) (N := ["steps", "number", "rises", "some", "count"]) (ps := ["steps", "number", "rises"]) (kp := [0, 1, 2]) (raw := false) F sc__law_undone (by decide) fun W X ok =>
    (okB_cons (ok_setLc (own := [("count", 4)]) ok (by rfl) (by kernel_rfl) (by decide) rfl rfl (by kernel_rfl) (okI_rng1 ok (by kernel_rfl) T.mg_range (okL_cons (ok_len ok ⟨by kernel_rfl, T.mg_len, bo_len, by decide, by decide⟩ (okL_cons (ok_name ok ⟨by rfl, by kernel_rfl, by decide, by decide⟩) okL_nil (star_cons rfl)) rfl) okL_nil (star_cons rfl)) rfl) (by kernel_rfl) (fun _ ok' => ⟨(okG_name ok' (by rfl) (by kernel_rfl) (by decide +kernel)), (okTs_one (okT_ord rfl (ok_sub_ ok' (fun _ _ => rfl) (ok_name ok' ⟨by rfl, by kernel_rfl, by decide, by decide⟩) (ok_name ok' ⟨by rfl, by kernel_rfl, by decide, by decide⟩)) (ok_name ok' ⟨by rfl, by kernel_rfl, by decide, by decide⟩))), (ok_name ok' ⟨by rfl, by kernel_rfl, by decide, by decide⟩)⟩) rfl)
      (okB_cons (ok_if (okT_eq ok (ok_name ok ⟨by rfl, by kernel_rfl, by decide, by decide⟩) (ok_list okL_nil)) (okB_one (ok_ret (ok_neg lit_int))) okB_nil)
      (okB_cons (ok_if (okT_ord rfl (ok_sub_ ok (fun _ _ => rfl) (ok_name ok ⟨by rfl, by kernel_rfl, by decide, by decide⟩) (ok_neg lit_int)) (ok_sub (ok_len ok ⟨by kernel_rfl, T.mg_len, bo_len, by decide, by decide⟩ (okL_cons (ok_name ok ⟨by rfl, by kernel_rfl, by decide, by decide⟩) okL_nil (star_cons rfl)) rfl) lit_int)) (okB_one (ok_ret (ok_sub_ ok (fun _ _ => rfl) (ok_name ok ⟨by rfl, by kernel_rfl, by decide, by decide⟩) (ok_neg lit_int)))) okB_nil)
      (okB_one (ok_ret (ok_ite (okT_tru ok (ok_name ok ⟨by rfl, by kernel_rfl, by decide, by decide⟩) rfl) (ok_sub (ok_add ok (ok_sub_ ok (fun _ _ => rfl) (ok_name ok ⟨by rfl, by kernel_rfl, by decide, by decide⟩) (ok_neg lit_int)) (ok_name ok ⟨by rfl, by kernel_rfl, by decide, by decide⟩)) (ok_sub_ ok (fun _ _ => rfl) (ok_name ok ⟨by rfl, by kernel_rfl, by decide, by decide⟩) (ok_neg lit_int))) lit_non)))))))
theorem cb__law_undone (T : Tx M) {k : Nat} (h : 1 ≤ k) : Cb M k (He.fAd M.K ("_law_undone", none)) i__law_undone.F i__law_undone.n i__law_undone.df := by
  obtain ⟨fd, F⟩ := T.fn__law_undone
  exact Cb.mono (Cb.of (g__law_undone T F) (F.bindsN fun _ _ _ _ _ _ us hl => match us, hl with | [_, _, _], _ => rfl)) h
theorem sc_moved_stair : FnScope ["stair", "by"] ["stair", "by"] (defScope st_moved_stair) := ⟨rfl, rfl, rfl, by decide +kernel, rfl, by decide +kernel, by decide +kernel⟩
theorem g_moved_stair (T : Tx M) {fd : FuncData} (F : FunD M.K "moved_stair" "moved_stair" (defArgs st_moved_stair) (defBody st_moved_stair) (defScope st_moved_stair) [] [] (He.fAd M.K ("moved_stair", none)) fd) : FnG M.prog M.w M.K M.mg M.base 6 (He.fAd M.K ("moved_stair", none)) fd ["stair", "by"] (spD M 2 F_moved_stair) :=
  (fn_body (k := 5) (N := ["stair", "by"]) (ps := ["stair", "by"]) (kp := [0, 1]) (raw := false) F sc_moved_stair (by decide) fun W X ok =>
    (okB_one (ok_ret (ok_makeN ok (by kernel_rfl) T.gl_Stair T.mk_Stair (by decide) (cb_Stair_init T (by decide)) rfl rfl (by decide) (okL_cons (ok_add ok (ok_attr ok T.fc_base (fun _ _ z => nomatch z) (ok_name ok ⟨by rfl, by kernel_rfl, by decide, by decide⟩) rfl) (ok_name ok ⟨by rfl, by kernel_rfl, by decide, by decide⟩)) (okL_cons (ok_listOf ok ⟨by kernel_rfl, T.mg_list, bo_list, by decide, by decide⟩ (okL_cons (ok_attr ok T.fc_turns (fun _ _ z => nomatch z) (ok_name ok ⟨by rfl, by kernel_rfl, by decide, by decide⟩) rfl) okL_nil (star_cons rfl)) rfl) okL_nil (star_cons rfl)) (star_cons rfl))))))
theorem cb_moved_stair (T : Tx M) {k : Nat} (h : 6 ≤ k) : Cb M k (He.fAd M.K ("moved_stair", none)) i_moved_stair.F i_moved_stair.n i_moved_stair.df := by
  obtain ⟨fd, F⟩ := T.fn_moved_stair
  exact Cb.mono (Cb.of (g_moved_stair T F) (F.bindsN fun _ _ _ _ _ _ us hl => match us, hl with | [_, _], _ => rfl)) h
theorem sc_Stair_shifted : FnScope ["self", "by"] ["self", "by"] (defScope st_Stair_shifted) := ⟨rfl, rfl, rfl, by decide +kernel, rfl, by decide +kernel, by decide +kernel⟩
theorem g_Stair_shifted (T : Tx M) {fd : FuncData} (F : FunD M.K "shifted" "Stair.shifted" (defArgs st_Stair_shifted) (defBody st_Stair_shifted) (defScope st_Stair_shifted) [] [] (He.fAd M.K ("Stair", some "shifted")) fd) : FnG M.prog M.w M.K M.mg M.base 7 (He.fAd M.K ("Stair", some "shifted")) fd ["self", "by"] (spD M 2 F_Stair_shifted) :=
  (fn_body (k := 6) (N := ["self", "by"]) (ps := ["self", "by"]) (kp := [0, 1]) (raw := false) F sc_Stair_shifted (by decide) fun W X ok =>
    (okB_cons (ok_expr (ok_callN ok (by kernel_rfl) T.gl_check_whole T.kp_check_whole (by decide) (cb_check_whole T (by decide)) rfl rfl (by decide) (okL_cons (ok_name ok ⟨by rfl, by kernel_rfl, by decide, by decide⟩) okL_nil (star_cons rfl))) rfl)
      (okB_one (ok_ret (ok_callN ok (by kernel_rfl) T.gl_moved_stair T.kp_moved_stair (by decide) (cb_moved_stair T (by decide)) rfl rfl (by decide) (okL_cons (ok_name ok ⟨by rfl, by kernel_rfl, by decide, by decide⟩) (okL_cons (ok_name ok ⟨by rfl, by kernel_rfl, by decide, by decide⟩) okL_nil (star_cons rfl)) (star_cons rfl)))))))
theorem cb_Stair_shifted (T : Tx M) {k : Nat} (h : 7 ≤ k) : Cb M k (He.fAd M.K ("Stair", some "shifted")) i_Stair_shifted.F i_Stair_shifted.n i_Stair_shifted.df := by
  obtain ⟨fd, F⟩ := T.fn_Stair_shifted
  exact Cb.mono (Cb.of (g_Stair_shifted T F) (F.bindsN fun _ _ _ _ _ _ us hl => match us, hl with | [_, _], _ => rfl)) h
theorem mt_shifted_ok (T : Tx M) {k : Nat} (h : 7 ≤ k) : MtOk M k "shifted" 1 mt_shifted := by
  intro c i e
  match c, e with
  | 0, e =>
    cases e
    exact ⟨_, T.cls_0, T.me_Stair_shifted, cb_Stair_shifted T (Nat.le_trans (by decide) h), by decide⟩
theorem sc__law_right : FnScope ["purse", "begin", "corners", "kept", "stair", "steps", "rises", "number", "by", "other", "far", "count"] ["purse", "begin", "corners"] (defScope st__law_right) := ⟨rfl, rfl, rfl, by decide +kernel, rfl, by decide +kernel, by decide +kernel⟩
theorem g__law_right (T : Tx M) {fd : FuncData} (F : FunD M.K "_law_right" "_law_right" (defArgs st__law_right) (defBody st__law_right) (defScope st__law_right) [] [] (He.fAd M.K ("_law_right", none)) fd) : FnG M.prog M.w M.K M.mg M.base 8 (He.fAd M.K ("_law_right", none)) fd ["purse", "begin", "corners"] (spD M 3 F__law_right) :=
  (fn_body (k := 7) (N := ["purse", "begin", "corners", "kept", "stair", "steps", "rises", "number", "by", "other", "far", "count"]) (ps := ["purse", "begin", "corners"]) (kp := [0, 1, 2]) (raw := false) F sc__law_right (by decide) fun W X ok =>
    (okB_cons (ok_set ok (by rfl) (by kernel_rfl) (by decide) (ok_listOf ok ⟨by kernel_rfl, T.mg_list, bo_list, by decide, by decide⟩ (okL_cons (ok_name ok ⟨by rfl, by kernel_rfl, by decide, by decide⟩) okL_nil (star_cons rfl)) rfl) (swaps_no rfl))
      (okB_cons (ok_asg' ok (ok_tup (okL_cons (ok_makeN ok (by kernel_rfl) T.gl_Stair T.mk_Stair (by decide) (cb_Stair_init T (by decide)) rfl rfl (by decide) (okL_cons (ok_name ok ⟨by rfl, by kernel_rfl, by decide, by decide⟩) (okL_cons (ok_name ok ⟨by rfl, by kernel_rfl, by decide, by decide⟩) okL_nil (star_cons rfl)) (star_cons rfl))) (okL_cons (ok_callN ok (by kernel_rfl) T.gl__law_steps T.kp__law_steps (by decide) (cb__law_steps T (by decide)) rfl rfl (by decide) (okL_cons (ok_name ok ⟨by rfl, by kernel_rfl, by decide, by decide⟩) (okL_cons (ok_name ok ⟨by rfl, by kernel_rfl, by decide, by decide⟩) (okL_cons lit_int okL_nil (star_cons rfl)) (star_cons rfl)) (star_cons rfl))) okL_nil (star_cons rfl)) (star_cons rfl))) (okG_tup ok (okGs_cons (okG_name ok (by rfl) (by kernel_rfl) (by decide +kernel)) (okGs_cons (okG_name ok (by rfl) (by kernel_rfl) (by decide +kernel)) okGs_nil rfl) rfl) rfl (fun _ _ _ h => gs_cons (gs_cons (gs_nil)) h)) rfl rfl rfl)
      (okB_cons (ok_expr (ok_append ok ⟨by rfl, by kernel_rfl, by decide, by decide⟩ lit_int rfl rfl) rfl)
      (okB_cons (ok_if (okT_ne ok (ok_repr ok ⟨by kernel_rfl, T.mg_repr, bo_repr, by decide, by decide⟩ (okL_cons (ok_list (okL_cons (ok_attr ok (fun _ z => nomatch z) (pt_begin_ok T (by decide)) (ok_name ok ⟨by rfl, by kernel_rfl, by decide, by decide⟩) rfl) (okL_cons (ok_attr ok (fun _ z => nomatch z) (pt_corners_ok T (by decide)) (ok_name ok ⟨by rfl, by kernel_rfl, by decide, by decide⟩) rfl) okL_nil (star_cons rfl)) (star_cons rfl))) okL_nil (star_cons rfl)) rfl) (ok_repr ok ⟨by kernel_rfl, T.mg_repr, bo_repr, by decide, by decide⟩ (okL_cons (ok_list (okL_cons (ok_name ok ⟨by rfl, by kernel_rfl, by decide, by decide⟩) (okL_cons (ok_name ok ⟨by rfl, by kernel_rfl, by decide, by decide⟩) okL_nil (star_cons rfl)) (star_cons rfl))) okL_nil (star_cons rfl)) rfl)) (okB_one (ok_ret lit_bl)) okB_nil)
      (okB_cons (ok_expr (ok_appT ok (ok_attr ok (fun _ z => nomatch z) (pt_corners_ok T (by decide)) (ok_name ok ⟨by rfl, by kernel_rfl, by decide, by decide⟩) rfl) lit_str rfl rfl rfl) rfl)
      (okB_cons (ok_set ok (by rfl) (by kernel_rfl) (by decide) (ok_eq ok (ok_mod (ok_len ok ⟨by kernel_rfl, T.mg_len, bo_len, by decide, by decide⟩ (okL_cons (ok_name ok ⟨by rfl, by kernel_rfl, by decide, by decide⟩) okL_nil (star_cons rfl)) rfl) lit_int) lit_int) (swaps_no rfl))
      (okB_cons (ok_if (OkW.t (okW_or (okT_ne ok (ok_lc (own := [("count", 11)]) ok (okI_rng1 ok (by kernel_rfl) T.mg_range (okL_cons lit_int okL_nil (star_cons rfl)) rfl) (by kernel_rfl) (fun _ ok' => ⟨(okG_name ok' (by rfl) (by kernel_rfl) (by decide +kernel)), okTs_nil, (ok_methN ok' (mt_value_ok T (by decide)) (ok_name ok' ⟨by rfl, by kernel_rfl, by decide, by decide⟩) rfl (okL_cons (ok_name ok' ⟨by rfl, by kernel_rfl, by decide, by decide⟩) okL_nil (star_cons rfl)) rfl rfl (by decide) rfl)⟩) rfl) (ok_name ok ⟨by rfl, by kernel_rfl, by decide, by decide⟩)) (okW_or1 (okT_ne ok (ok_attr ok (fun _ z => nomatch z) (pt_corners_ok T (by decide)) (ok_name ok ⟨by rfl, by kernel_rfl, by decide, by decide⟩) rfl) (ok_name ok ⟨by rfl, by kernel_rfl, by decide, by decide⟩))))) (okB_one (ok_ret lit_bl)) okB_nil)
      (okB_cons (ok_if (okT_ne ok (ok_repr ok ⟨by kernel_rfl, T.mg_repr, bo_repr, by decide, by decide⟩ (okL_cons (ok_meth0 ok (mt_end_ok T (by decide)) (ok_name ok ⟨by rfl, by kernel_rfl, by decide, by decide⟩) rfl rfl) okL_nil (star_cons rfl)) rfl) (ok_repr ok ⟨by kernel_rfl, T.mg_repr, bo_repr, by decide, by decide⟩ (okL_cons (ok_ite (okT_tru ok (ok_name ok ⟨by rfl, by kernel_rfl, by decide, by decide⟩) rfl) lit_non (ok_sub_ ok (fun _ _ => rfl) (ok_name ok ⟨by rfl, by kernel_rfl, by decide, by decide⟩) (ok_neg lit_int))) okL_nil (star_cons rfl)) rfl)) (okB_one (ok_ret lit_bl)) okB_nil)
      (okB_cons (ok_for ok (okI_seq ok (ok_list (okL_cons (ok_sub (ok_name ok ⟨by rfl, by kernel_rfl, by decide, by decide⟩) lit_int) (okL_cons (ok_name ok ⟨by rfl, by kernel_rfl, by decide, by decide⟩) (okL_cons (ok_add ok (ok_name ok ⟨by rfl, by kernel_rfl, by decide, by decide⟩) lit_int) (okL_cons (ok_sub (ok_sub_ ok (fun _ _ => rfl) (ok_name ok ⟨by rfl, by kernel_rfl, by decide, by decide⟩) (ok_neg lit_int)) lit_int) (okL_cons (ok_sub_ ok (fun _ _ => rfl) (ok_name ok ⟨by rfl, by kernel_rfl, by decide, by decide⟩) (ok_neg lit_int)) (okL_cons (ok_add ok (ok_sub_ ok (fun _ _ => rfl) (ok_name ok ⟨by rfl, by kernel_rfl, by decide, by decide⟩) (ok_neg lit_int)) lit_int) (okL_cons (ok_add ok (ok_name ok ⟨by rfl, by kernel_rfl, by decide, by decide⟩) (ok_callN ok (by kernel_rfl) T.gl__law_draw T.kp__law_draw (by decide) (cb__law_draw T (by decide)) rfl rfl (by decide) (okL_cons (ok_name ok ⟨by rfl, by kernel_rfl, by decide, by decide⟩) (okL_cons lit_int okL_nil (star_cons rfl)) (star_cons rfl)))) okL_nil (star_cons rfl)) (star_cons rfl)) (star_cons rfl)) (star_cons rfl)) (star_cons rfl)) (star_cons rfl)) (star_cons rfl)))) (okG_name ok (by rfl) (by kernel_rfl) (by decide +kernel)) (okB_one (ok_if (okT_ne ok (ok_repr ok ⟨by kernel_rfl, T.mg_repr, bo_repr, by decide, by decide⟩ (okL_cons (ok_methN ok (mt_undone_ok T (by decide)) (ok_name ok ⟨by rfl, by kernel_rfl, by decide, by decide⟩) rfl (okL_cons (ok_name ok ⟨by rfl, by kernel_rfl, by decide, by decide⟩) okL_nil (star_cons rfl)) rfl rfl (by decide) rfl) okL_nil (star_cons rfl)) rfl) (ok_repr ok ⟨by kernel_rfl, T.mg_repr, bo_repr, by decide, by decide⟩ (okL_cons (ok_callN ok (by kernel_rfl) T.gl__law_undone T.kp__law_undone (by decide) (cb__law_undone T (by decide)) rfl rfl (by decide) (okL_cons (ok_name ok ⟨by rfl, by kernel_rfl, by decide, by decide⟩) (okL_cons (ok_name ok ⟨by rfl, by kernel_rfl, by decide, by decide⟩) (okL_cons (ok_name ok ⟨by rfl, by kernel_rfl, by decide, by decide⟩) okL_nil (star_cons rfl)) (star_cons rfl)) (star_cons rfl))) okL_nil (star_cons rfl)) rfl)) (okB_one (ok_ret lit_bl)) okB_nil)) rfl)
      (okB_cons (ok_set ok (by rfl) (by kernel_rfl) (by decide) (ok_callN ok (by kernel_rfl) T.gl__law_one_of T.kp__law_one_of (by decide) (cb__law_one_of T (by decide)) rfl rfl (by decide) (okL_cons (ok_name ok ⟨by rfl, by kernel_rfl, by decide, by decide⟩) (okL_cons (ok_list (okL_cons lit_int (okL_cons lit_int (okL_cons (ok_neg lit_int) (okL_cons (ok_pow lit_int lit_int) okL_nil (star_cons rfl)) (star_cons rfl)) (star_cons rfl)) (star_cons rfl))) okL_nil (star_cons rfl)) (star_cons rfl))) (swaps_no rfl))
      (okB_cons (ok_set ok (by rfl) (by kernel_rfl) (by decide) (ok_methN ok (mt_shifted_ok T (by decide)) (ok_name ok ⟨by rfl, by kernel_rfl, by decide, by decide⟩) rfl (okL_cons (ok_name ok ⟨by rfl, by kernel_rfl, by decide, by decide⟩) okL_nil (star_cons rfl)) rfl rfl (by decide) rfl) (swaps_no rfl))
      (okB_cons (ok_if (OkW.t (okW_or (okT_neO ok (neT_ok T (by decide)) (ok_name ok ⟨by rfl, by kernel_rfl, by decide, by decide⟩) (ok_makeN ok (by kernel_rfl) T.gl_Stair T.mk_Stair (by decide) (cb_Stair_init T (by decide)) rfl rfl (by decide) (okL_cons (ok_add ok (ok_name ok ⟨by rfl, by kernel_rfl, by decide, by decide⟩) (ok_name ok ⟨by rfl, by kernel_rfl, by decide, by decide⟩)) (okL_cons (ok_name ok ⟨by rfl, by kernel_rfl, by decide, by decide⟩) okL_nil (star_cons rfl)) (star_cons rfl)))) (okW_or (okT_ne ok (ok_eqO ok (eqT_ok T (by decide)) (ok_name ok ⟨by rfl, by kernel_rfl, by decide, by decide⟩) (ok_name ok ⟨by rfl, by kernel_rfl, by decide, by decide⟩)) (ok_eq ok (ok_name ok ⟨by rfl, by kernel_rfl, by decide, by decide⟩) lit_int)) (okW_or1 (okT_ne ok (ok_attr ok (fun _ z => nomatch z) (pt_begin_ok T (by decide)) (ok_name ok ⟨by rfl, by kernel_rfl, by decide, by decide⟩) rfl) (ok_name ok ⟨by rfl, by kernel_rfl, by decide, by decide⟩)))))) (okB_one (ok_ret lit_bl)) okB_nil)
      (okB_cons (ok_set ok (by rfl) (by kernel_rfl) (by decide) (ok_add ok (ok_pow lit_int lit_int) (ok_callN ok (by kernel_rfl) T.gl__law_draw T.kp__law_draw (by decide) (cb__law_draw T (by decide)) rfl rfl (by decide) (okL_cons (ok_name ok ⟨by rfl, by kernel_rfl, by decide, by decide⟩) (okL_cons lit_int okL_nil (star_cons rfl)) (star_cons rfl)))) (swaps_no rfl))
      (okB_one (ok_ret (ok_eq ok (ok_methN ok (mt_value_ok T (by decide)) (ok_name ok ⟨by rfl, by kernel_rfl, by decide, by decide⟩) rfl (okL_cons (ok_name ok ⟨by rfl, by kernel_rfl, by decide, by decide⟩) okL_nil (star_cons rfl)) rfl rfl (by decide) rfl) (ok_ite (okT_tru ok (ok_name ok ⟨by rfl, by kernel_rfl, by decide, by decide⟩) rfl) (ok_sub (ok_add ok (ok_sub_ ok (fun _ _ => rfl) (ok_name ok ⟨by rfl, by kernel_rfl, by decide, by decide⟩) (ok_neg lit_int)) (ok_name ok ⟨by rfl, by kernel_rfl, by decide, by decide⟩)) lit_int) (ok_sub_ ok (fun _ _ => rfl) (ok_name ok ⟨by rfl, by kernel_rfl, by decide, by decide⟩) (ok_neg lit_int))))))))))))))))))))
theorem cb__law_right (T : Tx M) {k : Nat} (h : 8 ≤ k) : Cb M k (He.fAd M.K ("_law_right", none)) i__law_right.F i__law_right.n i__law_right.df := by
  obtain ⟨fd, F⟩ := T.fn__law_right
  exact Cb.mono (Cb.of (g__law_right T F) (F.bindsN fun _ _ _ _ _ _ us hl => match us, hl with | [_, _, _], _ => rfl)) h
theorem sc__law_great_right : FnScope ["purse", "one", "two", "stair", "some", "due", "count", "number"] ["purse"] (defScope st__law_great_right) := ⟨rfl, rfl, rfl, by decide +kernel, rfl, by decide +kernel, by decide +kernel⟩
theorem g__law_great_right (T : Tx M) {fd : FuncData} (F : FunD M.K "_law_great_right" "_law_great_right" (defArgs st__law_great_right) (defBody st__law_great_right) (defScope st__law_great_right) [] [] (He.fAd M.K ("_law_great_right", none)) fd) : FnG M.prog M.w M.K M.mg M.base 6 (He.fAd M.K ("_law_great_right", none)) fd ["purse"] (spD M 1 F__law_great_right) :=
  (fn_body (k := 5) (N := ["purse", "one", "two", "stair", "some", "due", "count", "number"]) (ps := ["purse"]) (kp := [0]) (raw := false) F sc__law_great_right (by decide) fun W X ok =>
    (okB_cons (ok_par' ok (by rfl) (by rfl) (by decide) (by kernel_rfl) (by kernel_rfl) (by decide) (by decide) (okL_cons (ok_callN ok (by kernel_rfl) T.gl__law_draw T.kp__law_draw (by decide) (cb__law_draw T (by decide)) rfl rfl (by decide) (okL_cons (ok_name ok ⟨by rfl, by kernel_rfl, by decide, by decide⟩) (okL_cons (ok_pow lit_int lit_int) okL_nil (star_cons rfl)) (star_cons rfl))) (okL_cons (ok_add ok lit_int (ok_callN ok (by kernel_rfl) T.gl__law_draw T.kp__law_draw (by decide) (cb__law_draw T (by decide)) rfl rfl (by decide) (okL_cons (ok_name ok ⟨by rfl, by kernel_rfl, by decide, by decide⟩) (okL_cons (ok_pow lit_int lit_int) okL_nil (star_cons rfl)) (star_cons rfl)))) okL_nil (star_cons rfl)) (star_cons rfl)) rfl)
      (okB_cons (ok_set ok (by rfl) (by kernel_rfl) (by decide) (ok_makeN ok (by kernel_rfl) T.gl_Stair T.mk_Stair (by decide) (cb_Stair_init T (by decide)) rfl rfl (by decide) (okL_cons (ok_sub lit_int (ok_name ok ⟨by rfl, by kernel_rfl, by decide, by decide⟩)) (okL_cons (ok_list (okL_cons (ok_name ok ⟨by rfl, by kernel_rfl, by decide, by decide⟩) (okL_cons (ok_add ok (ok_name ok ⟨by rfl, by kernel_rfl, by decide, by decide⟩) (ok_name ok ⟨by rfl, by kernel_rfl, by decide, by decide⟩)) (okL_cons (ok_add ok (ok_add ok (ok_name ok ⟨by rfl, by kernel_rfl, by decide, by decide⟩) (ok_name ok ⟨by rfl, by kernel_rfl, by decide, by decide⟩)) (ok_name ok ⟨by rfl, by kernel_rfl, by decide, by decide⟩)) okL_nil (star_cons rfl)) (star_cons rfl)) (star_cons rfl))) okL_nil (star_cons rfl)) (star_cons rfl))) (swaps_no rfl))
      (okB_cons (ok_set ok (by rfl) (by kernel_rfl) (by decide) (ok_list (okL_cons (ok_name ok ⟨by rfl, by kernel_rfl, by decide, by decide⟩) (okL_cons (ok_add ok (ok_name ok ⟨by rfl, by kernel_rfl, by decide, by decide⟩) (ok_name ok ⟨by rfl, by kernel_rfl, by decide, by decide⟩)) (okL_cons (ok_add ok (ok_add ok (ok_name ok ⟨by rfl, by kernel_rfl, by decide, by decide⟩) (ok_name ok ⟨by rfl, by kernel_rfl, by decide, by decide⟩)) (ok_name ok ⟨by rfl, by kernel_rfl, by decide, by decide⟩)) (okL_cons (ok_add ok (ok_mul lit_int (ok_name ok ⟨by rfl, by kernel_rfl, by decide, by decide⟩)) (ok_mul lit_int (ok_name ok ⟨by rfl, by kernel_rfl, by decide, by decide⟩))) okL_nil (star_cons rfl)) (star_cons rfl)) (star_cons rfl)) (star_cons rfl))) (swaps_no rfl))
      (okB_cons (ok_if (okT_ne ok (ok_lc (own := [("count", 6)]) ok (okI_seq ok (ok_name ok ⟨by rfl, by kernel_rfl, by decide, by decide⟩)) (by kernel_rfl) (fun _ ok' => ⟨(okG_name ok' (by rfl) (by kernel_rfl) (by decide +kernel)), okTs_nil, (ok_methN ok' (mt_value_ok T (by decide)) (ok_name ok' ⟨by rfl, by kernel_rfl, by decide, by decide⟩) rfl (okL_cons (ok_name ok' ⟨by rfl, by kernel_rfl, by decide, by decide⟩) okL_nil (star_cons rfl)) rfl rfl (by decide) rfl)⟩) rfl) (ok_list (okL_cons (ok_sub lit_int (ok_name ok ⟨by rfl, by kernel_rfl, by decide, by decide⟩)) (okL_cons (ok_sub (ok_name ok ⟨by rfl, by kernel_rfl, by decide, by decide⟩) (ok_name ok ⟨by rfl, by kernel_rfl, by decide, by decide⟩)) (okL_cons (ok_sub (ok_name ok ⟨by rfl, by kernel_rfl, by decide, by decide⟩) (ok_name ok ⟨by rfl, by kernel_rfl, by decide, by decide⟩)) (okL_cons (ok_name ok ⟨by rfl, by kernel_rfl, by decide, by decide⟩) okL_nil (star_cons rfl)) (star_cons rfl)) (star_cons rfl)) (star_cons rfl)))) (okB_one (ok_ret lit_bl)) okB_nil)
      (okB_cons (ok_set ok (by rfl) (by kernel_rfl) (by decide) (ok_list (okL_cons (ok_neg lit_int) (okL_cons (ok_name ok ⟨by rfl, by kernel_rfl, by decide, by decide⟩) (okL_cons (ok_add ok (ok_name ok ⟨by rfl, by kernel_rfl, by decide, by decide⟩) (ok_mul lit_int (ok_name ok ⟨by rfl, by kernel_rfl, by decide, by decide⟩))) (okL_cons (ok_add ok (ok_mul lit_int (ok_name ok ⟨by rfl, by kernel_rfl, by decide, by decide⟩)) (ok_mul lit_int (ok_name ok ⟨by rfl, by kernel_rfl, by decide, by decide⟩))) okL_nil (star_cons rfl)) (star_cons rfl)) (star_cons rfl)) (star_cons rfl))) (swaps_no rfl))
      (okB_cons (ok_if (okT_ne ok (ok_lc (own := [("number", 7)]) ok (okI_seq ok (ok_list (okL_cons (ok_sub (ok_sub lit_int (ok_name ok ⟨by rfl, by kernel_rfl, by decide, by decide⟩)) lit_int) (okL_cons (ok_sub lit_int (ok_name ok ⟨by rfl, by kernel_rfl, by decide, by decide⟩)) (okL_cons (ok_sub (ok_name ok ⟨by rfl, by kernel_rfl, by decide, by decide⟩) (ok_name ok ⟨by rfl, by kernel_rfl, by decide, by decide⟩)) (okL_cons (ok_name ok ⟨by rfl, by kernel_rfl, by decide, by decide⟩) okL_nil (star_cons rfl)) (star_cons rfl)) (star_cons rfl)) (star_cons rfl)))) (by kernel_rfl) (fun _ ok' => ⟨(okG_name ok' (by rfl) (by kernel_rfl) (by decide +kernel)), okTs_nil, (ok_methN ok' (mt_undone_ok T (by decide)) (ok_name ok' ⟨by rfl, by kernel_rfl, by decide, by decide⟩) rfl (okL_cons (ok_name ok' ⟨by rfl, by kernel_rfl, by decide, by decide⟩) okL_nil (star_cons rfl)) rfl rfl (by decide) rfl)⟩) rfl) (ok_name ok ⟨by rfl, by kernel_rfl, by decide, by decide⟩)) (okB_one (ok_ret lit_bl)) okB_nil)
      (okB_one (ok_ret (ok_and (ok_isN (ok_meth0 ok (mt_end_ok T (by decide)) (ok_name ok ⟨by rfl, by kernel_rfl, by decide, by decide⟩) rfl rfl) lit_non) (ok_one (ok_eq ok (ok_add ok (ok_name ok ⟨by rfl, by kernel_rfl, by decide, by decide⟩) lit_int) (ok_meth0 ok (mt_end_ok T (by decide)) (ok_makeN ok (by kernel_rfl) T.gl_Stair T.mk_Stair (by decide) (cb_Stair_init T (by decide)) rfl rfl (by decide) (okL_cons (ok_name ok ⟨by rfl, by kernel_rfl, by decide, by decide⟩) (okL_cons (ok_list (okL_cons (ok_name ok ⟨by rfl, by kernel_rfl, by decide, by decide⟩) (okL_cons (ok_add ok (ok_name ok ⟨by rfl, by kernel_rfl, by decide, by decide⟩) lit_int) okL_nil (star_cons rfl)) (star_cons rfl))) okL_nil (star_cons rfl)) (star_cons rfl))) rfl rfl)))))))))))))
theorem cb__law_great_right (T : Tx M) {k : Nat} (h : 6 ≤ k) : Cb M k (He.fAd M.K ("_law_great_right", none)) i__law_great_right.F i__law_great_right.n i__law_great_right.df := by
  obtain ⟨fd, F⟩ := T.fn__law_great_right
  exact Cb.mono (Cb.of (g__law_great_right T F) (F.bindsN fun _ _ _ _ _ _ us hl => match us, hl with | [_], _ => rfl)) h
theorem sc_law : FnScope ["script", "purse", "begin", "corners", "other"] ["script"] (defScope st_law) := ⟨rfl, rfl, rfl, by decide +kernel, rfl, by decide +kernel, by decide +kernel⟩
theorem g_law (T : Tx M) {fd : FuncData} (F : FunD M.K "law" "law" (defArgs st_law) (defBody st_law) (defScope st_law) [] [] (He.fAd M.K ("law", none)) fd) : FnG M.prog M.w M.K M.mg M.base 9 (He.fAd M.K ("law", none)) fd ["script"] (spD M 1 F_law) :=
  (fn_body (k := 8) (N := ["script", "purse", "begin", "corners", "other"]) (ps := ["script"]) (kp := [0]) (raw := false) F sc_law (by decide) fun W X ok =>
    (okB_cons (ok_for ok (okI_seq ok (ok_callN ok (by kernel_rfl) T.gl__law_purses T.kp__law_purses (by decide) (cb__law_purses T (by decide)) rfl rfl (by decide) (okL_cons (ok_name ok ⟨by rfl, by kernel_rfl, by decide, by decide⟩) (okL_cons lit_int okL_nil (star_cons rfl)) (star_cons rfl)))) (okG_name ok (by rfl) (by kernel_rfl) (by decide +kernel)) (okB_cons (ok_asg' ok (ok_callN ok (by kernel_rfl) T.gl__law_stair T.kp__law_stair (by decide) (cb__law_stair T (by decide)) rfl rfl (by decide) (okL_cons (ok_name ok ⟨by rfl, by kernel_rfl, by decide, by decide⟩) (okL_cons lit_int okL_nil (star_cons rfl)) (star_cons rfl))) (okG_tup ok (okGs_cons (okG_name ok (by rfl) (by kernel_rfl) (by decide +kernel)) (okGs_cons (okG_name ok (by rfl) (by kernel_rfl) (by decide +kernel)) okGs_nil rfl) rfl) rfl (fun _ _ _ h => gs_cons (gs_cons (gs_nil)) h)) rfl rfl rfl)
      (okB_cons (ok_set ok (by rfl) (by kernel_rfl) (by decide) (ok_callN ok (by kernel_rfl) T.gl__law_stair T.kp__law_stair (by decide) (cb__law_stair T (by decide)) rfl rfl (by decide) (okL_cons (ok_name ok ⟨by rfl, by kernel_rfl, by decide, by decide⟩) (okL_cons lit_int okL_nil (star_cons rfl)) (star_cons rfl))) (swaps_no rfl))
      (okB_cons (ok_if (okT_pure (okT_ne ok (ok_eq ok (ok_tup (okL_cons (ok_name ok ⟨by rfl, by kernel_rfl, by decide, by decide⟩) (okL_cons (ok_name ok ⟨by rfl, by kernel_rfl, by decide, by decide⟩) okL_nil (star_cons rfl)) (star_cons rfl))) (ok_name ok ⟨by rfl, by kernel_rfl, by decide, by decide⟩)) (ok_eqO ok (eqT_ok T (by decide)) (ok_makeN ok (by kernel_rfl) T.gl_Stair T.mk_Stair (by decide) (cb_Stair_init T (by decide)) rfl rfl (by decide) (okL_cons (ok_name ok ⟨by rfl, by kernel_rfl, by decide, by decide⟩) (okL_cons (ok_name ok ⟨by rfl, by kernel_rfl, by decide, by decide⟩) okL_nil (star_cons rfl)) (star_cons rfl))) (ok_makeN ok (by kernel_rfl) T.gl_Stair T.mk_Stair (by decide) (cb_Stair_init T (by decide)) rfl rfl (by decide) (okL_cons (ok_sub_ ok (fun _ _ => rfl) (ok_name ok ⟨by rfl, by kernel_rfl, by decide, by decide⟩) lit_int) (okL_cons (ok_sub_ ok (fun _ _ => rfl) (ok_name ok ⟨by rfl, by kernel_rfl, by decide, by decide⟩) lit_int) okL_nil (star_cons rfl)) (star_cons rfl)))))) (okB_one (ok_ret lit_bl)) okB_nil)
      (okB_cons (ok_if (okT_pure (okT_notB (ok_neO ok (neT_ok T (by decide)) (ok_makeN ok (by kernel_rfl) T.gl_Stair T.mk_Stair (by decide) (cb_Stair_init T (by decide)) rfl rfl (by decide) (okL_cons (ok_name ok ⟨by rfl, by kernel_rfl, by decide, by decide⟩) (okL_cons (ok_name ok ⟨by rfl, by kernel_rfl, by decide, by decide⟩) okL_nil (star_cons rfl)) (star_cons rfl))) (ok_makeN ok (by kernel_rfl) T.gl_Stair T.mk_Stair (by decide) (cb_Stair_init T (by decide)) rfl rfl (by decide) (okL_cons (ok_name ok ⟨by rfl, by kernel_rfl, by decide, by decide⟩) (okL_cons (ok_listOf ok ⟨by kernel_rfl, T.mg_list, bo_list, by decide, by decide⟩ (okL_cons (ok_name ok ⟨by rfl, by kernel_rfl, by decide, by decide⟩) okL_nil (star_cons rfl)) rfl) okL_nil (star_cons rfl)) (star_cons rfl)))) lit_bl)) (okB_one (ok_ret lit_bl)) okB_nil)
      (okB_cons (ok_if (okT_pure (okT_eqTu ok (tuT_ok T (by decide)) (ok_tup (okL_cons (ok_name ok ⟨by rfl, by kernel_rfl, by decide, by decide⟩) (okL_cons (ok_name ok ⟨by rfl, by kernel_rfl, by decide, by decide⟩) okL_nil (star_cons rfl)) (star_cons rfl))) (ok_makeN ok (by kernel_rfl) T.gl_Stair T.mk_Stair (by decide) (cb_Stair_init T (by decide)) rfl rfl (by decide) (okL_cons (ok_name ok ⟨by rfl, by kernel_rfl, by decide, by decide⟩) (okL_cons (ok_name ok ⟨by rfl, by kernel_rfl, by decide, by decide⟩) okL_nil (star_cons rfl)) (star_cons rfl))))) (okB_one (ok_ret lit_bl)) okB_nil)
      (okB_cons (ok_if (okT_pure (OkW.t (okW_and (okT_ne ok (ok_name ok ⟨by rfl, by kernel_rfl, by decide, by decide⟩) (ok_list okL_nil)) (okW_and1 (okT_not (okT_tru ok (ok_callN ok (by kernel_rfl) T.gl__law_near_right T.kp__law_near_right (by decide) (cb__law_near_right T (by decide)) rfl rfl (by decide) (okL_cons (ok_name ok ⟨by rfl, by kernel_rfl, by decide, by decide⟩) (okL_cons (ok_name ok ⟨by rfl, by kernel_rfl, by decide, by decide⟩) okL_nil (star_cons rfl)) (star_cons rfl))) rfl)))))) (okB_one (ok_ret lit_bl)) okB_nil)
      (okB_cons (ok_if (OkW.t (okW_or (okT_pure (okT_eqN ok (eqT_ok T (by decide)) (ok_makeN ok (by kernel_rfl) T.gl_Stair T.mk_Stair (by decide) (cb_Stair_init T (by decide)) rfl rfl (by decide) (okL_cons (ok_name ok ⟨by rfl, by kernel_rfl, by decide, by decide⟩) (okL_cons (ok_name ok ⟨by rfl, by kernel_rfl, by decide, by decide⟩) okL_nil (star_cons rfl)) (star_cons rfl))) lit_non)) (okW_or1 (okT_not (okT_tru ok (ok_callN ok (by kernel_rfl) T.gl__law_right T.kp__law_right (by decide) (cb__law_right T (by decide)) rfl rfl (by decide) (okL_cons (ok_name ok ⟨by rfl, by kernel_rfl, by decide, by decide⟩) (okL_cons (ok_name ok ⟨by rfl, by kernel_rfl, by decide, by decide⟩) (okL_cons (ok_name ok ⟨by rfl, by kernel_rfl, by decide, by decide⟩) okL_nil (star_cons rfl)) (star_cons rfl)) (star_cons rfl))) rfl))))) (okB_one (ok_ret lit_bl)) okB_nil)
      (okB_one (ok_if (okT_not (okT_tru ok (ok_callN ok (by kernel_rfl) T.gl__law_great_right T.kp__law_great_right (by decide) (cb__law_great_right T (by decide)) rfl rfl (by decide) (okL_cons (ok_name ok ⟨by rfl, by kernel_rfl, by decide, by decide⟩) okL_nil (star_cons rfl))) rfl)) (okB_one (ok_ret lit_bl)) okB_nil))))))))) rfl)
      (okB_one (ok_ret lit_bl))))
theorem cb_law (T : Tx M) {k : Nat} (h : 9 ≤ k) : Cb M k (He.fAd M.K ("law", none)) i_law.F i_law.n i_law.df := by
  obtain ⟨fd, F⟩ := T.fn_law
  exact Cb.mono (Cb.of (g_law T F) (F.bindsN fun _ _ _ _ _ _ us hl => match us, hl with | [_], _ => rfl)) h
end
def d__law_purse : He.DefD := ⟨("_law_purse", none), "_law_purse", "_law_purse", defArgs st__law_purse, defBody st__law_purse, defScope st__law_purse, [], []⟩
def d__law_purses : He.DefD := ⟨("_law_purses", none), "_law_purses", "_law_purses", defArgs st__law_purses, defBody st__law_purses, defScope st__law_purses, [], []⟩
def d__law_mixed : He.DefD := ⟨("_law_mixed", none), "_law_mixed", "_law_mixed", defArgs st__law_mixed, defBody st__law_mixed, defScope st__law_mixed, [], []⟩
def d__law_draw : He.DefD := ⟨("_law_draw", none), "_law_draw", "_law_draw", defArgs st__law_draw, defBody st__law_draw, defScope st__law_draw, [], []⟩
def d__law_one_of : He.DefD := ⟨("_law_one_of", none), "_law_one_of", "_law_one_of", defArgs st__law_one_of, defBody st__law_one_of, defScope st__law_one_of, [], []⟩
def d__law_corners : He.DefD := ⟨("_law_corners", none), "_law_corners", "_law_corners", defArgs st__law_corners, defBody st__law_corners, defScope st__law_corners, [], []⟩
def d__law_stair : He.DefD := ⟨("_law_stair", none), "_law_stair", "_law_stair", defArgs st__law_stair, defBody st__law_stair, defScope st__law_stair, [], []⟩
def d_is_whole : He.DefD := ⟨("is_whole", none), "is_whole", "is_whole", defArgs st_is_whole, defBody st_is_whole, defScope st_is_whole, [], []⟩
def d_check_whole : He.DefD := ⟨("check_whole", none), "check_whole", "check_whole", defArgs st_check_whole, defBody st_check_whole, defScope st_check_whole, [], []⟩
def d_is_count : He.DefD := ⟨("is_count", none), "is_count", "is_count", defArgs st_is_count, defBody st_is_count, defScope st_is_count, [], []⟩
def d_are_corners : He.DefD := ⟨("are_corners", none), "are_corners", "are_corners", defArgs st_are_corners, defBody st_are_corners, defScope st_are_corners, [], []⟩
def d_Stair_init : He.DefD := ⟨("Stair", some "__init__"), "__init__", "Stair.__init__", defArgs st_Stair_init, defBody st_Stair_init, defScope st_Stair_init, [], []⟩
def d_Stair_eq : He.DefD := ⟨("Stair", some "__eq__"), "__eq__", "Stair.__eq__", defArgs st_Stair_eq, defBody st_Stair_eq, defScope st_Stair_eq, [], []⟩
def d__law_near_right : He.DefD := ⟨("_law_near_right", none), "_law_near_right", "_law_near_right", defArgs st__law_near_right, defBody st__law_near_right, defScope st__law_near_right, [], []⟩
def d__law_steps : He.DefD := ⟨("_law_steps", none), "_law_steps", "_law_steps", defArgs st__law_steps, defBody st__law_steps, defScope st__law_steps, [], []⟩
def d_check_count : He.DefD := ⟨("check_count", none), "check_count", "check_count", defArgs st_check_count, defBody st_check_count, defScope st_check_count, [.int 0, .non], []⟩
def d_Stair_rises : He.DefD := ⟨("Stair", some "rises"), "rises", "Stair.rises", defArgs st_Stair_rises, defBody st_Stair_rises, defScope st_Stair_rises, [], []⟩
def d_Stair_height : He.DefD := ⟨("Stair", some "height"), "height", "Stair.height", defArgs st_Stair_height, defBody st_Stair_height, defScope st_Stair_height, [], []⟩
def d_Stair_value : He.DefD := ⟨("Stair", some "value"), "value", "Stair.value", defArgs st_Stair_value, defBody st_Stair_value, defScope st_Stair_value, [], []⟩
def d_Stair_end : He.DefD := ⟨("Stair", some "end"), "end", "Stair.end", defArgs st_Stair_end, defBody st_Stair_end, defScope st_Stair_end, [], []⟩
def d_Stair_last_at : He.DefD := ⟨("Stair", some "last_at"), "last_at", "Stair.last_at", defArgs st_Stair_last_at, defBody st_Stair_last_at, defScope st_Stair_last_at, [], []⟩
def d_Stair_undone : He.DefD := ⟨("Stair", some "undone"), "undone", "Stair.undone", defArgs st_Stair_undone, defBody st_Stair_undone, defScope st_Stair_undone, [], []⟩
def d__law_undone : He.DefD := ⟨("_law_undone", none), "_law_undone", "_law_undone", defArgs st__law_undone, defBody st__law_undone, defScope st__law_undone, [], []⟩
def d_moved_stair : He.DefD := ⟨("moved_stair", none), "moved_stair", "moved_stair", defArgs st_moved_stair, defBody st_moved_stair, defScope st_moved_stair, [], []⟩
def d_Stair_shifted : He.DefD := ⟨("Stair", some "shifted"), "shifted", "Stair.shifted", defArgs st_Stair_shifted, defBody st_Stair_shifted, defScope st_Stair_shifted, [], []⟩
def d__law_right : He.DefD := ⟨("_law_right", none), "_law_right", "_law_right", defArgs st__law_right, defBody st__law_right, defScope st__law_right, [], []⟩
def d__law_great_right : He.DefD := ⟨("_law_great_right", none), "_law_great_right", "_law_great_right", defArgs st__law_great_right, defBody st__law_great_right, defScope st__law_great_right, [], []⟩
def d_law : He.DefD := ⟨("law", none), "law", "law", defArgs st_law, defBody st_law, defScope st_law, [], []⟩
def d_Stair_begin : He.DefD := ⟨("Stair", some "begin"), "begin", "Stair.begin", defArgs st_Stair_begin, defBody st_Stair_begin, defScope st_Stair_begin, [], []⟩
def d_Stair_corners : He.DefD := ⟨("Stair", some "corners"), "corners", "Stair.corners", defArgs st_Stair_corners, defBody st_Stair_corners, defScope st_Stair_corners, [], []⟩
def fnL : List He.DefD := [d__law_purse, d__law_purses, d__law_mixed, d__law_draw, d__law_one_of, d__law_corners, d__law_stair, d_is_whole, d_check_whole, d_is_count, d_are_corners, d_Stair_init, d_Stair_eq, d__law_near_right, d__law_steps, d_check_count, d_Stair_rises, d_Stair_height, d_Stair_value, d_Stair_end, d_Stair_last_at, d_Stair_undone, d__law_undone, d_moved_stair, d_Stair_shifted, d__law_right, d__law_great_right, d_law]
def fa : List He.Fa := [.free "bool", .free "int", .free "isinstance", .free "len", .free "list", .free "max", .free "min", .free "range", .free "repr", .free "sum", .free "tuple", .glo "_law_purse", .glo "_law_purses", .glo "_law_mixed", .glo "_law_draw", .glo "_law_one_of", .glo "_law_corners", .glo "_law_stair", .glo "is_whole", .glo "check_whole", .glo "is_count", .glo "are_corners", .glo "_law_near_right", .glo "_law_steps", .glo "check_count", .glo "_law_undone", .glo "moved_stair", .glo "_law_right", .glo "_law_great_right", .glo "law", .glo "Stair", .cls "Stair", .noat "Stair" "base", .noat "Stair" "turns", .mkr "Stair", .meth "Stair" "__eq__", .meth "Stair" "end", .meth "Stair" "height", .meth "Stair" "last_at", .meth "Stair" "rises", .meth "Stair" "shifted", .meth "Stair" "undone", .meth "Stair" "value"]
def plL : List (Str × Str × He.DefD) := [("Stair", "begin", d_Stair_begin), ("Stair", "corners", d_Stair_corners)]
def exB (K : PySem.W.Frag) : Bool := propB K "Stair" "begin" && getB K (pAd K "Stair" "begin") "Stair.begin" && propB K "Stair" "corners" && getB K (pAd K "Stair" "corners") "Stair.corners" && kitB2 K (.ref (He.ga K "Stair")) bt_Stair cs_Stair && kitB2 K (.type "bool") bt_bool cs_bool && kitB2 K (.type "int") bt_int cs_int && kitB2 K (.type "list") bt_list cs_list && neB K "Stair" && notTupB K "Stair"
def md (w : World) (K : PySem.W.Frag) (mg : Str → Option Value) (base : Heap) : Md := ⟨PySem.Challenge.pw_whosepace_k43_stairs_made, w, K, mg, base, fun n => match n with
  | 0 => He.ga K "Stair"
  | _ => 0⟩
def cn : List (Nat × Str) := [(0, "Stair")]
theorem hC (w : World) (K : PySem.W.Frag) (mg : Str → Option Value) (base : Heap) : ∀ n x, (n, x) ∈ cn → (md w K mg base).C n = He.ga (md w K mg base).K x := by
  intro n x h
  simp only [cn, List.mem_cons, Prod.mk.injEq, List.not_mem_nil, or_false] at h
  rcases h with ⟨rfl, rfl⟩ <;> rfl
theorem tx_of {w : World} {K : PySem.W.Frag} {mg : Str → Option Value} {base : Heap} (X : K.In base) (G : base.Ns mainGlobals mg) (c : He.SaysD fa fnL K) (e : exB K = true) (hp : (plL.map fun p => fnAt K (pAd K p.1 p.2.1)) = plL.map fun p => p.2.2.val) : Tx (md w K mg base) := by
  unfold exB at e
  simp only [Bool.and_eq_true] at e
  obtain ⟨⟨⟨⟨⟨⟨⟨⟨⟨h_pr_Stair_begin, h_gp_Stair_begin⟩, h_pr_Stair_corners⟩, h_gp_Stair_corners⟩, h_Stair⟩, h_bool⟩, h_int⟩, h_list⟩, h_ne_Stair⟩, h_tu_Stair⟩ := e
  exact {
    mg_bool := He.free_ok X G (c.fact 0 (f := .free "bool") rfl),
    mg_int := He.free_ok X G (c.fact 1 (f := .free "int") rfl),
    mg_isinstance := He.free_ok X G (c.fact 2 (f := .free "isinstance") rfl),
    mg_len := He.free_ok X G (c.fact 3 (f := .free "len") rfl),
    mg_list := He.free_ok X G (c.fact 4 (f := .free "list") rfl),
    mg_max := He.free_ok X G (c.fact 5 (f := .free "max") rfl),
    mg_min := He.free_ok X G (c.fact 6 (f := .free "min") rfl),
    mg_range := He.free_ok X G (c.fact 7 (f := .free "range") rfl),
    mg_repr := He.free_ok X G (c.fact 8 (f := .free "repr") rfl),
    mg_sum := He.free_ok X G (c.fact 9 (f := .free "sum") rfl),
    mg_tuple := He.free_ok X G (c.fact 10 (f := .free "tuple") rfl),
    fn__law_purse := c.def_ 0 (d := d__law_purse) rfl,
    gl__law_purse := He.glo_ok X G (c.fact 11 (f := .glo "_law_purse") rfl),
    kp__law_purse := (c.def_ 0 (d := d__law_purse) rfl).choose_spec.kp,
    fn__law_purses := c.def_ 1 (d := d__law_purses) rfl,
    gl__law_purses := He.glo_ok X G (c.fact 12 (f := .glo "_law_purses") rfl),
    kp__law_purses := (c.def_ 1 (d := d__law_purses) rfl).choose_spec.kp,
    fn__law_mixed := c.def_ 2 (d := d__law_mixed) rfl,
    gl__law_mixed := He.glo_ok X G (c.fact 13 (f := .glo "_law_mixed") rfl),
    kp__law_mixed := (c.def_ 2 (d := d__law_mixed) rfl).choose_spec.kp,
    fn__law_draw := c.def_ 3 (d := d__law_draw) rfl,
    gl__law_draw := He.glo_ok X G (c.fact 14 (f := .glo "_law_draw") rfl),
    kp__law_draw := (c.def_ 3 (d := d__law_draw) rfl).choose_spec.kp,
    fn__law_one_of := c.def_ 4 (d := d__law_one_of) rfl,
    gl__law_one_of := He.glo_ok X G (c.fact 15 (f := .glo "_law_one_of") rfl),
    kp__law_one_of := (c.def_ 4 (d := d__law_one_of) rfl).choose_spec.kp,
    fn__law_corners := c.def_ 5 (d := d__law_corners) rfl,
    gl__law_corners := He.glo_ok X G (c.fact 16 (f := .glo "_law_corners") rfl),
    kp__law_corners := (c.def_ 5 (d := d__law_corners) rfl).choose_spec.kp,
    fn__law_stair := c.def_ 6 (d := d__law_stair) rfl,
    gl__law_stair := He.glo_ok X G (c.fact 17 (f := .glo "_law_stair") rfl),
    kp__law_stair := (c.def_ 6 (d := d__law_stair) rfl).choose_spec.kp,
    fn_is_whole := c.def_ 7 (d := d_is_whole) rfl,
    gl_is_whole := He.glo_ok X G (c.fact 18 (f := .glo "is_whole") rfl),
    kp_is_whole := (c.def_ 7 (d := d_is_whole) rfl).choose_spec.kp,
    fn_check_whole := c.def_ 8 (d := d_check_whole) rfl,
    gl_check_whole := He.glo_ok X G (c.fact 19 (f := .glo "check_whole") rfl),
    kp_check_whole := (c.def_ 8 (d := d_check_whole) rfl).choose_spec.kp,
    fn_is_count := c.def_ 9 (d := d_is_count) rfl,
    gl_is_count := He.glo_ok X G (c.fact 20 (f := .glo "is_count") rfl),
    kp_is_count := (c.def_ 9 (d := d_is_count) rfl).choose_spec.kp,
    fn_are_corners := c.def_ 10 (d := d_are_corners) rfl,
    gl_are_corners := He.glo_ok X G (c.fact 21 (f := .glo "are_corners") rfl),
    kp_are_corners := (c.def_ 10 (d := d_are_corners) rfl).choose_spec.kp,
    fn_Stair_init := c.def_ 11 (d := d_Stair_init) rfl,
    fn_Stair_eq := c.def_ 12 (d := d_Stair_eq) rfl,
    fn__law_near_right := c.def_ 13 (d := d__law_near_right) rfl,
    gl__law_near_right := He.glo_ok X G (c.fact 22 (f := .glo "_law_near_right") rfl),
    kp__law_near_right := (c.def_ 13 (d := d__law_near_right) rfl).choose_spec.kp,
    fn__law_steps := c.def_ 14 (d := d__law_steps) rfl,
    gl__law_steps := He.glo_ok X G (c.fact 23 (f := .glo "_law_steps") rfl),
    kp__law_steps := (c.def_ 14 (d := d__law_steps) rfl).choose_spec.kp,
    fn_Stair_begin := getB_ok (d := d_Stair_begin) (pl_at hp 0 rfl) h_gp_Stair_begin,
    pr_Stair_begin := propB_ok h_pr_Stair_begin,
    fn_Stair_corners := getB_ok (d := d_Stair_corners) (pl_at hp 1 rfl) h_gp_Stair_corners,
    pr_Stair_corners := propB_ok h_pr_Stair_corners,
    fn_check_count := c.def_ 15 (d := d_check_count) rfl,
    gl_check_count := He.glo_ok X G (c.fact 24 (f := .glo "check_count") rfl),
    kp_check_count := (c.def_ 15 (d := d_check_count) rfl).choose_spec.kp,
    fn_Stair_rises := c.def_ 16 (d := d_Stair_rises) rfl,
    fn_Stair_height := c.def_ 17 (d := d_Stair_height) rfl,
    fn_Stair_value := c.def_ 18 (d := d_Stair_value) rfl,
    fn_Stair_end := c.def_ 19 (d := d_Stair_end) rfl,
    fn_Stair_last_at := c.def_ 20 (d := d_Stair_last_at) rfl,
    fn_Stair_undone := c.def_ 21 (d := d_Stair_undone) rfl,
    fn__law_undone := c.def_ 22 (d := d__law_undone) rfl,
    gl__law_undone := He.glo_ok X G (c.fact 25 (f := .glo "_law_undone") rfl),
    kp__law_undone := (c.def_ 22 (d := d__law_undone) rfl).choose_spec.kp,
    fn_moved_stair := c.def_ 23 (d := d_moved_stair) rfl,
    gl_moved_stair := He.glo_ok X G (c.fact 26 (f := .glo "moved_stair") rfl),
    kp_moved_stair := (c.def_ 23 (d := d_moved_stair) rfl).choose_spec.kp,
    fn_Stair_shifted := c.def_ 24 (d := d_Stair_shifted) rfl,
    fn__law_right := c.def_ 25 (d := d__law_right) rfl,
    gl__law_right := He.glo_ok X G (c.fact 27 (f := .glo "_law_right") rfl),
    kp__law_right := (c.def_ 25 (d := d__law_right) rfl).choose_spec.kp,
    fn__law_great_right := c.def_ 26 (d := d__law_great_right) rfl,
    gl__law_great_right := He.glo_ok X G (c.fact 28 (f := .glo "_law_great_right") rfl),
    kp__law_great_right := (c.def_ 26 (d := d__law_great_right) rfl).choose_spec.kp,
    fn_law := c.def_ 27 (d := d_law) rfl,
    gl_law := He.glo_ok X G (c.fact 29 (f := .glo "law") rfl),
    kp_law := (c.def_ 27 (d := d_law) rfl).choose_spec.kp,
    gl_Stair := He.glo_ok X G (c.fact 30 (f := .glo "Stair") rfl),
    cls_0 := He.cls_ok (c.fact 31 (f := .cls "Stair") rfl),
    na_0_base := He.noat_ok (c.fact 32 (f := .noat "Stair" "base") rfl),
    na_0_turns := He.noat_ok (c.fact 33 (f := .noat "Stair" "turns") rfl),
    mk_Stair := He.mkr_ok (c.fact 34 (f := .mkr "Stair") rfl),
    me_Stair___eq__ := He.meth_ok (c.fact 35 (f := .meth "Stair" "__eq__") rfl),
    me_Stair_end := He.meth_ok (c.fact 36 (f := .meth "Stair" "end") rfl),
    me_Stair_height := He.meth_ok (c.fact 37 (f := .meth "Stair" "height") rfl),
    me_Stair_last_at := He.meth_ok (c.fact 38 (f := .meth "Stair" "last_at") rfl),
    me_Stair_rises := He.meth_ok (c.fact 39 (f := .meth "Stair" "rises") rfl),
    me_Stair_shifted := He.meth_ok (c.fact 40 (f := .meth "Stair" "shifted") rfl),
    me_Stair_undone := He.meth_ok (c.fact 41 (f := .meth "Stair" "undone") rfl),
    me_Stair_value := He.meth_ok (c.fact 42 (f := .meth "Stair" "value") rfl),
    is_Stair := isOk_of (cn := cn) (hC w K mg base) h_Stair ct_Stair (by decide +kernel),
    is_bool := isOk_of (cn := cn) (hC w K mg base) h_bool ct_bool (by decide +kernel),
    is_int := isOk_of (cn := cn) (hC w K mg base) h_int ct_int (by decide +kernel),
    is_list := isOk_of (cn := cn) (hC w K mg base) h_list ct_list (by decide +kernel),
    ne_Stair := neB_ok h_ne_Stair,
    tu_Stair := notTupB_ok h_tu_Stair
  }
abbrev R : PySem.W.OpenRow := PySem.W.OpenLaw.row PySem.Challenge.rw_whosepace_k43_stairs_made
abbrev hk : PySem.W.Hook := hookP 5 fa fnL exB plL
def ob (s : PySem.W.SharedT) : AlP := obsP 5 fa fnL exB plL (HandSHeadRun.getT s)
theorem ob_eq (s : PySem.W.SharedT) : ob s = hk.obs s.abs := obsP_eq (HandSHeadRun.getT_eq s)
def names : List PySem.Str := (["_wall", "LeafError", "InvalidWhole", "InvalidCount", "InvalidCorners", "is_whole", "is_count", "check_whole", "check_count", "are_corners", "Stair", "moved_stair", "_law_purse", "_law_mixed", "_law_draw", "_law_purses", "_law_one_of", "_law_corners", "_law_stair", "_law_steps"] : List PySem.Str) ++ (["_law_undone", "_law_right", "_law_near_right", "_law_great_right"] : List PySem.Str)
theorem run (w : World) : HandSHeadRun.RunEq R (PySem.W.view R.prog [28]) hk ob 3000 names w := by
  intro os
  kernel_rfl
end L43
section
open PySem PySem.W PySem.Calls PyProof.Rows
theorem L43.holds_of (pure : ∀ ns : List Int, ns.length ≤ 63 → ∃ θ, L43.F_law [.sh (.lst (ns.map .int))] = some (.ok (.sh (.bl true)) θ)) : PySem.Challenge.rw_whosepace_k43_stairs_made.Holds := by
  w_on; o_law
  refine HandSHeadRun.head_any (r := OpenLaw.row PySem.Challenge.rw_whosepace_k43_stairs_made) (q := view (OpenLaw.row PySem.Challenge.rw_whosepace_k43_stairs_made).prog [28]) (H := L43.hk) (ob := L43.ob) (M := 3000) (loose := L43.names) (d := HandSHeadRun.topDef (OpenLaw.row PySem.Challenge.rw_whosepace_k43_stairs_made).prog 28) (kwd := []) L43.ob_eq
    (by kernel_rfl) (fun s => by kernel_rfl) L43.run (by kernel_rfl) (by kernel_rfl) (by kernel_rfl) (by rfl) (by first | assumption | decide +kernel) (by decide +kernel) ⟨rfl, rfl, rfl, rfl, rfl, by decide +kernel⟩ ?hw ?hc
  case hw => w_witness2
  case hc =>
    refine Wp.walkG (l := PySem.Challenge.rw_whosepace_k43_stairs_made) (n := 63) (k := 9) (x := "script") rfl (by decide) (by kernel_rfl) ⟨rfl, by decide, by decide⟩ ?F
    intro w mg fa h Y G hmg0
    obtain ⟨K, KX, c, e, hp⟩ := Y
    have hmg : mg ("law" : PySem.Str) = some (.ref fa) := by
      have e : (HandSHeadRun.topDef (OpenLaw.row PySem.Challenge.rw_whosepace_k43_stairs_made).prog 28).name = ("law" : PySem.Str) := by kernel_rfl
      rw [← e]
      exact hmg0
    have T0 : L43.Tx (L43.md w K mg h) := L43.tx_of KX G c e hp
    obtain ⟨fd, F⟩ := T0.fn_law
    obtain rfl : fa = He.fAd K ("law", none) := by
      have := hmg.symm.trans T0.gl_law
      exact Value.ref.inj (Option.some.inj this)
    refine ⟨K, fd, Wp.spD (L43.md w K mg h) 1 L43.F_law, KX, fun s v => F.bindsA (ps := ["script"]) (fun _ _ _ _ _ _ us hl => match us, hl with | [_], _ => rfl) s [v] rfl, fun H a ns hl hS => Wp.law_sp (pure ns hl) hS, fun base KB GB => ?_⟩
    exact L43.g_law (L43.tx_of (w := w) KB GB c e hp) F
end
end
section
set_option Elab.async false
set_option linter.all false
set_option maxRecDepth 100000
set_option maxHeartbeats 8000000
namespace L43
open PySem PySem.Spec PyProof.Rows L2 Wp
/-! R22: the whole law -/
abbrev lawB : FS := (fSeq (fAsg (gTp (gsCons (gNm 2) (gsCons (gNm 3) gsNil))) (fCallN i__law_stair 2 (fCons (fVar 1) (fCons (fLit (.int 7)) fNil))))
      (fSeq (fSet 4 (fCallN i__law_stair 2 (fCons (fVar 1) (fCons (fLit (.int 3)) fNil))))
      (fSeq (fIf (fPureT (fBl (f2 (f2 (fDisp .ot (fCons (fVar 2) (fCons (fVar 3) fNil))) (fVar 4) (p2 gEq)) (fEqO eqT (fMake 0 2 i_Stair_init (fCons (fVar 2) (fCons (fVar 3) fNil))) (fMake 0 2 i_Stair_init (fCons (f2 (fVar 4) (fLit (.int 0)) (p2 gSub2)) (fCons (f2 (fVar 4) (fLit (.int 1)) (p2 gSub2)) fNil)))) (p2 gNe)))) (fRet (fLit (.bl false))) fNext)
      (fSeq (fIf (fPureT (fBl (f2 (fNeO eqT (fMake 0 2 i_Stair_init (fCons (fVar 2) (fCons (fVar 3) fNil))) (fMake 0 2 i_Stair_init (fCons (fVar 2) (fCons (fn (fCons (fVar 3) fNil) (p1 gList)) fNil)))) (fLit (.bl false)) (p2 (gIsB true))))) (fRet (fLit (.bl false))) fNext)
      (fSeq (fIf (fPureT (fBl (fEqTu eqT (fDisp .ot (fCons (fVar 2) (fCons (fVar 3) fNil))) (fMake 0 2 i_Stair_init (fCons (fVar 2) (fCons (fVar 3) fNil)))))) (fRet (fLit (.bl false))) fNext)
      (fSeq (fIf (fPureT (fAndT (fBl (f2 (fVar 3) (fDisp .ol fNil) (p2 gNe))) (fNotT (fTru (fCallN i__law_near_right 2 (fCons (fVar 2) (fCons (fVar 3) fNil))))))) (fRet (fLit (.bl false))) fNext)
      (fSeq (fIf (fOrT (fPureT (fBl (fEqN eqT (fMake 0 2 i_Stair_init (fCons (fVar 2) (fCons (fVar 3) fNil))) (fLit .non)))) (fNotT (fTru (fCallN i__law_right 3 (fCons (fVar 1) (fCons (fVar 2) (fCons (fVar 3) fNil))))))) (fRet (fLit (.bl false))) fNext)
      (fIf (fNotT (fTru (fCallN i__law_great_right 1 (fCons (fVar 1) fNil)))) (fRet (fLit (.bl false))) fNext))))))))
theorem law_body (x0 x2 x3 x4 : Option Val) (a b e : Int) (ha : 0 ≤ a) (he : 0 ≤ e) (he2 : e < 3) : ∃ p y2 y3 y4, lawB [x0, some (pu a b 0 e), x2, x3, x4] = some (.ok .next [x0, p, y2, y3, y4]) := by
  obtain ⟨h, cs, a1, c1, k1, k2, k3, w1, w2, i1, i2, i3, i4, hs⟩ := F_stair a b 0 e 7 ha (by decide) (by decide) he (by omega) (by decide) (by decide)
  obtain ⟨h2, cs2, a2, c2, k4, k5, k6, w3, w4, j1, j2, j3, j4, hs2⟩ := F_stair a1 b c1 e 3 k1 (by omega) (by omega) he (by omega) (by decide) (by decide)
  have l1 : cs.length ≤ 7 := by simpa using i3
  have l2 : cs2.length ≤ 7 := by
    have : cs2.length ≤ 3 := by simpa using j3
    omega
  obtain ⟨a3, c3, X, m1, m2, m3, hr⟩ := F_right a2 b c2 e h cs k4 (by omega) (by omega) he (by omega) ⟨w1, w2⟩ i1 (fun x hx => by have := i2 x hx; omega) l1
  obtain ⟨a4, c4, m4, m5, m6, hg⟩ := F_greatR a3 b c3 e m1 (by omega) (by omega) he (by omega)
  have p1 := pure1 x0 (pu a2 b c2 e) h h2 cs cs2 i1 j1 l1 l2
  have p2' := pure2 x0 (pu a2 b c2 e) h h2 cs cs2 i1 j1 l1 l2
  have p3 := pure3 x0 (pu a2 b c2 e) h h2 cs cs2 i1 j1 l1 l2
  have p4 := pure4 x0 (pu a2 b c2 e) h h2 cs cs2 i1 j1 l1 l2
  have p5 := pure5 x0 (pu a2 b c2 e) h h2 cs cs2 i1 j1 l1 l2
  refine ⟨some (pu a4 b c4 e), some (.sh (.int h)), some X, some (.ot [.sh (.int h2), iv cs2]), ?_⟩
  simp only [lwE, iv, il] at *
  generalize cs.map D.int = C at *
  generalize cs2.map D.int = C2 at *
  unfold pu at *
  repeat first | with_reducible (first | exact hs | exact hs2 | exact p1 | exact p2' | exact p3 | exact p4 | exact p5 | exact hr | exact hg) | (refine Lf.mk ?_ <;> first | (simp only [sharE, immD, tupD, Option.map_none, Fi.dv, List.drop_nil, List.drop_zero, List.drop_succ_cons, prepAll, prep1, Val.top, Val.d, ds_sh, Val.ds, esc1, escAll, escS, argAll, pass1, arg1, backAll, back1, shAll, shOf, shAll_map, isOl, shList, itemsT, itemsL, gNm, gTp, gsCons, gsNil, wipeE, outF, List.getElem?_cons_zero, List.getElem?_cons_succ, List.getElem?_nil, List.set_cons_zero, List.set_cons_succ, List.headD_cons, List.headD_nil, List.tail_cons, List.tail_nil, List.length_cons, List.length_nil, List.map_cons, List.map_nil, List.replicate_zero, List.replicate_succ, List.cons_append, List.nil_append, List.append_nil, Nat.reduceAdd, Nat.reduceSub, Nat.reduceLT, Nat.reduceLeDiff, Nat.zero_add, Nat.add_zero, Nat.sub_self, Nat.zero_lt_succ, Nat.add_lt_add_iff_right, if_true, if_false, ite_true, ite_false, reduceIte, Bool.false_eq_true, Option.map_some, Option.bind_some, decide_true, decide_false, Option.bind_none, Option.map_none] <;> first | exact rfl | decide) | exact rfl | decide) | (refine Gp.mk ?_ <;> first | with_reducible (first | exact hs | exact hs2 | exact p1 | exact p2' | exact p3 | exact p4 | exact p5 | exact hr | exact hg) | (simp only [p1, p2, gAdd, Wp.gSub, gMul, gMod, gNeg, gCmp, cmpF, cLt, cLe, cGt, cGe, gEq, gNe, gIsN, gSub2, gIx, gLen, gMx2, gMn2, gInt, gBits, truthD, itemsX, itemsL, itemsT, shItems, shAll, shOf, shAll_map, Val.d, ds_sh, Val.ds, List.map_cons, List.map_nil, List.length_cons, List.length_nil, List.length_map, Option.map_some, Option.bind_some, Option.map_none, Option.bind_none, Bool.not_true, Bool.not_false, if_true, if_false, reduceIte, Bool.false_eq_true, numV, Option.bind_none, Option.map_none] <;> exact rfl) | exact rfl) | (refine Sz.mk ?_ <;> first | assumption | with_reducible (first | exact hs | exact hs2 | exact p1 | exact p2' | exact p3 | exact p4 | exact p5 | exact hr | exact hg) | (simp [sizeLine_eq]; done) | (simp [sizeLine_eq] <;> omega) | (simp [sizeLine_eq, small62] <;> omega)) | with_reducible (first | apply e_var | apply e_lit | apply e_f1 | apply e_f2 | apply e_fn | apply e_app1 | apply e_app2 | apply e_nil | apply e_cons | apply e_bl | apply e_tru | apply e_notT | apply e_andT | apply e_orT | apply e_andV | apply e_orV | apply e_notV | apply e_ite | apply e_disp | apply e_pt0 | apply e_pt1 | apply e_slice | apply e_lc | apply lc_nil | apply lc_cons | apply e_yes | apply e_seqI | apply e_enum | apply e_rng1 | apply e_rng2 | apply e_callD | apply e_call | apply e_make | apply e_meth | apply e_prop | apply e_attr | apply e_neO | apply e_eqO | apply e_par3 | apply e_seq | apply sq_n | apply sq_r | apply sq_b | apply sq_c | apply e_set | apply e_par | apply e_asg | apply e_expr | apply e_app | apply e_ret | apply e_retN | apply e_nxt | apply e_flw | apply e_if | apply e_for | apply lp_nil | apply lp_cons | apply lp_n | apply lp_c | apply lp_b | apply lp_r | apply e_setI | apply e_setF | apply e_retM | apply e_pure | apply e_pureT | apply e_eqN | apply e_eqTu | apply e_appT | apply e_sem | apply ok_ok) | ((with_reducible refine c_t ?hb ?_); (case hb => decide)) | ((with_reducible refine c_f ?hb ?_); (case hb => decide)) | ((with_reducible refine c_t ?hb ?_); (case hb => first | with_reducible rfl | with_reducible assumption | (simp [Option.bind_none, Option.map_none] <;> omega) | omega)) | ((with_reducible refine c_f ?hb ?_); (case hb => first | with_reducible rfl | with_reducible assumption | (simp [Option.bind_none, Option.map_none] <;> omega) | omega)) | with_reducible (apply lc_put) | with_reducible (apply lc_skip)
theorem law_all (x0 : Option Val) : ∀ (ps : List Val) (x1 x2 x3 x4 : Option Val), (∀ p ∈ ps, ∃ a b e, 0 ≤ a ∧ 0 ≤ e ∧ e < 3 ∧ p = pu a b 0 e) → ∃ y1 y2 y3 y4, loopF (gNm 1) lawB ps [x0, x1, x2, x3, x4] = some (.ok .next [x0, y1, y2, y3, y4])
  | [], x1, x2, x3, x4, _ => ⟨x1, x2, x3, x4, rfl⟩
  | p :: ps, x1, x2, x3, x4, hp => by
    obtain ⟨a, b, e, ha, he, he2, rfl⟩ := hp p (List.mem_cons_self ..)
    obtain ⟨q, y2, y3, y4, hb⟩ := law_body x0 x2 x3 x4 a b e ha he he2
    obtain ⟨z1, z2, z3, z4, ih⟩ := law_all x0 ps q y2 y3 y4 fun p h => hp p (List.mem_cons_of_mem _ h)
    refine ⟨z1, z2, z3, z4, ?_⟩
    rw [loop_next (rfl : gNm 1 (pu a b 0 e) [x0, x1, x2, x3, x4] = some [x0, some (pu a b 0 e), x2, x3, x4]) hb]
    exact ih
theorem F_lawT (ns : List Int) : ∃ θ, F_law [.sh (.lst (ns.map .int))] = some (.ok (.sh (.bl true)) θ) := by
  obtain ⟨ps, hp, _, hps⟩ := F_purses ns
  obtain ⟨y1, y2, y3, y4, hl⟩ := law_all (some (.sh (.lst (ns.map .int)))) ps none none none none hp
  refine ⟨[some (.sh (.lst (ns.map .int)))], ?_⟩
  unfold F_law
  repeat first | with_reducible (first | exact hps | exact hl) | (refine Lf.mk ?_ <;> first | (simp only [sharE, immD, tupD, Option.map_none, Fi.dv, List.drop_nil, List.drop_zero, List.drop_succ_cons, prepAll, prep1, Val.top, Val.d, ds_sh, Val.ds, esc1, escAll, escS, argAll, pass1, arg1, backAll, back1, shAll, shOf, shAll_map, isOl, shList, itemsT, itemsL, gNm, gTp, gsCons, gsNil, wipeE, outF, List.getElem?_cons_zero, List.getElem?_cons_succ, List.getElem?_nil, List.set_cons_zero, List.set_cons_succ, List.headD_cons, List.headD_nil, List.tail_cons, List.tail_nil, List.length_cons, List.length_nil, List.map_cons, List.map_nil, List.replicate_zero, List.replicate_succ, List.cons_append, List.nil_append, List.append_nil, Nat.reduceAdd, Nat.reduceSub, Nat.reduceLT, Nat.reduceLeDiff, Nat.zero_add, Nat.add_zero, Nat.sub_self, Nat.zero_lt_succ, Nat.add_lt_add_iff_right, if_true, if_false, ite_true, ite_false, reduceIte, Bool.false_eq_true, Option.map_some, Option.bind_some, decide_true, decide_false] <;> first | exact rfl | decide) | exact rfl | decide) | (refine Gp.mk ?_ <;> first | with_reducible (first | exact hps | exact hl) | (simp only [p1, p2, gAdd, Wp.gSub, gMul, gMod, gNeg, gCmp, cmpF, cLt, cLe, cGt, cGe, gEq, gNe, gIsN, gSub2, gIx, gLen, gMx2, gMn2, gInt, gBits, truthD, itemsX, itemsL, itemsT, shItems, shAll, shOf, shAll_map, Val.d, ds_sh, Val.ds, List.map_cons, List.map_nil, List.length_cons, List.length_nil, List.length_map, Option.map_some, Option.bind_some, Option.map_none, Option.bind_none, Bool.not_true, Bool.not_false, if_true, if_false, reduceIte, Bool.false_eq_true, numV] <;> exact rfl) | exact rfl) | (refine Sz.mk ?_ <;> first | assumption | with_reducible (first | exact hps | exact hl) | (simp [sizeLine_eq]; done) | (simp [sizeLine_eq] <;> omega) | (simp [sizeLine_eq, small62] <;> omega)) | with_reducible (first | apply e_var | apply e_lit | apply e_f1 | apply e_f2 | apply e_fn | apply e_app1 | apply e_app2 | apply e_nil | apply e_cons | apply e_bl | apply e_tru | apply e_notT | apply e_andT | apply e_orT | apply e_andV | apply e_orV | apply e_notV | apply e_ite | apply e_disp | apply e_pt0 | apply e_pt1 | apply e_slice | apply e_lc | apply lc_nil | apply lc_cons | apply e_yes | apply e_seqI | apply e_enum | apply e_rng1 | apply e_rng2 | apply e_callD | apply e_call | apply e_make | apply e_meth | apply e_prop | apply e_attr | apply e_neO | apply e_eqO | apply e_par3 | apply e_seq | apply sq_n | apply sq_r | apply sq_b | apply sq_c | apply e_set | apply e_par | apply e_asg | apply e_expr | apply e_app | apply e_ret | apply e_retN | apply e_nxt | apply e_flw | apply e_if | apply e_for | apply lp_nil | apply lp_cons | apply lp_n | apply lp_c | apply lp_b | apply lp_r | apply e_setI | apply e_setF | apply e_retM | apply e_pure | apply e_pureT | apply e_eqN | apply e_eqTu | apply e_appT | apply e_sem | apply ok_ok) | ((with_reducible refine c_t ?hb ?_); (case hb => decide)) | ((with_reducible refine c_f ?hb ?_); (case hb => decide)) | ((with_reducible refine c_t ?hb ?_); (case hb => first | with_reducible rfl | with_reducible assumption | (simp <;> omega) | omega)) | ((with_reducible refine c_f ?hb ?_); (case hb => first | with_reducible rfl | with_reducible assumption | (simp <;> omega) | omega)) | with_reducible (apply lc_put) | with_reducible (apply lc_skip)
end L43
theorem PySem.Challenge.cw_whosepace_k43_stairs_made_holds : PySem.Challenge.rw_whosepace_k43_stairs_made.Holds :=
  L43.holds_of fun ns _ => L43.F_lawT ns
end
