import PyProof.Rows.All
import HandS.ForMost
import HandS.Exc
import HandS.CallSlots
import HandS.Property
import HandS.Defaults
import HandS.HeadEnd
import HandS.HeadWalk
import HandS.Zip
import HandS.Comp
import HandS.WordsExc
import HandS.Wide
import HandS.WideBits
import HandS.Deep
import HandS.SortInts
import HandS.RaiseMore
import HandS.IsInst
import HandS.WordsDict
import PyProof.ReprRoads
import HandS.OwnEq
import HandS.Codes
import HandS.SetFor
import HandS.Strs
import KE.KStateDown
import HandS.Head0
import HandS.Head1
import HandS.Head2
import HandS.HeadHook1
import HandS.HeadHook2
import PyProof.InstEq
import HandS.Style
import HandS.ListEq
import HandS.SetTxt0
import PyProof.Rows.SortShellAny
import PyProof.Rows.StrMeet
import HandS.Text
import HandS.Iter
import HandS.DeepEq
import HandS.TupAny
import HandS.DictComp
import HandS.DictEq
import HandS.TupMul
import HandS.Finally
import PyProof.Rows.ReprShort
import HandS.More
import HandS.ListItems
import HandS.StrMore
import PySem.Challenge.RW_whosepace_k94_whole_texts_of_all_small_t
section
set_option Elab.async false
set_option linter.all false
set_option maxRecDepth 100000
namespace Wp
open PySem PySem.Spec PyProof.Rows L2

inductive D where
  | non | bl (b : Bool) | int (i : Int) | str (x : Str)
  | tup (xs : List D) | lst (xs : List D) | dict (ks : List Key) (vs : List D) | dt (ks : List (List Key)) (vs : List D) | fn (n : Nat) | rng (lo hi : Int) | obj (c : Nat) (fs : List Str) (vs : List D)
  deriving Inhabited

inductive Val where
  | sh (d : D) | ol (xs : List Val) | ot (xs : List Val) | od (ks : List Key) (xs : List Val) | odt (ks : List (List Key)) (xs : List Val) | oi (c : Nat) (fs : List Str) (xs : List Val)
  deriving Inhabited

mutual
def Val.d : Val → D
  | .sh d => d
  | .ol xs => .lst (Val.ds xs)
  | .ot xs => .tup (Val.ds xs)
  | .od ks xs => .dict ks (Val.ds xs)
  | .odt ks xs => .dt ks (Val.ds xs)
  | .oi c fs xs => .obj c fs (Val.ds xs)
def Val.ds : List Val → List D
  | [] => []
  | x :: xs => x.d :: Val.ds xs
end
theorem Val.ds_map : ∀ xs : List Val, Val.ds xs = xs.map Val.d
  | [] => by simp [Val.ds]
  | x :: xs => by simp [Val.ds, Val.ds_map xs]

/-- the written part, the classes' addresses -/
structure Gc where
  K : PySem.W.Frag
  C : Nat → Addr

mutual
def RepD (G : Gc) (H : Hp) : D → V → Prop
  | .non, v => v = .non
  | .bl b, v => v = .bl b
  | .int i, v => v = .int i
  | .str x, v => v = .str x
  | .tup xs, v => ∃ a vs, v = .ref a ∧ H a = some (.tup vs) ∧ RepDs G H xs vs
  | .lst xs, v => ∃ a vs, v = .ref a ∧ SqL G.K H a vs ∧ RepDs G H xs vs
  | .dict ks xs, v => ∃ a vs, v = .ref a ∧ Rd H a (.dK (ks.zip vs)) ∧ ks.length = vs.length ∧ RepDs G H xs vs
  | .dt ks xs, v => ∃ a vs, v = .ref a ∧ Rd H a (.dT (ks.zip vs)) ∧ ks.length = vs.length ∧ RepDs G H xs vs
  | .fn n, v => v = .ref (G.C n)
  | .rng lo hi, v => ∃ a, v = .ref a ∧ H a = some (.rng lo hi)
  | .obj c fs xs, v => ∃ a dx vs, v = .ref a ∧ H a = some (.ins (G.C c) dx (fs.zip vs)) ∧ fs.length = vs.length ∧ RepDs G H xs vs
def RepDs (G : Gc) (H : Hp) : List D → List V → Prop
  | [], vs => vs = []
  | x :: xs, vs => ∃ v ws, vs = v :: ws ∧ RepD G H x v ∧ RepDs G H xs ws
end

def Sub (H H' : Hp) : Prop := ∀ b o, H b = some o → H' b = some o
/-- as Sub, but a dict may be locked -/
def IsDO (o : HO) : Prop := (∃ kvs, o = .dK kvs) ∨ ∃ kvs, o = .dT kvs
theorem IsDO.k {kvs : List (Key × V)} : IsDO (.dK kvs) := .inl ⟨kvs, rfl⟩
theorem IsDO.t {kvs : List (List Key × V)} : IsDO (.dT kvs) := .inr ⟨kvs, rfl⟩
def Le (H H' : Hp) : Prop := ∀ b o, H b = some o → H' b = some o ∨ ∃ ob, IsDO o ∧ H' b = some (.frz ob o)
theorem Sub.le {H H' : Hp} (s : Sub H H') : Le H H' := fun b o e => .inl (s b o e)
theorem Sub.refl {H : Hp} : Sub H H := fun _ _ e => e
theorem Sub.trans {H H' H'' : Hp} (s : Sub H H') (t : Sub H' H'') : Sub H H'' := fun b o e => t b o (s b o e)
theorem Le.refl {H : Hp} : Le H H := Sub.refl.le
theorem Le.sub {H H' H'' : Hp} (s : Sub H H') (t : Le H' H'') : Le H H'' := fun b o e => t b o (s b o e)
theorem Le.keep {H H' : Hp} (s : Le H H') {a : Addr} {o : HO} (e : H a = some o) (nd : ¬ IsDO o) : H' a = some o := by
  rcases s a o e with h | ⟨ob, h, _⟩
  · exact h
  · exact absurd h nd
theorem IsDO.lst {xs : List V} : ¬ IsDO (.lst xs) := fun h => by rcases h with ⟨_, h⟩ | ⟨_, h⟩ <;> cases h
theorem IsDO.tup {xs : List V} : ¬ IsDO (.tup xs) := fun h => by rcases h with ⟨_, h⟩ | ⟨_, h⟩ <;> cases h
theorem IsDO.frz {o : Obj} {u : HO} : ¬ IsDO (.frz o u) := fun h => by rcases h with ⟨_, h⟩ | ⟨_, h⟩ <;> cases h
theorem IsDO.ins {c d : Addr} {fs : List (Str × V)} : ¬ IsDO (.ins c d fs) := fun h => by rcases h with ⟨_, h⟩ | ⟨_, h⟩ <;> cases h
theorem IsDO.rng {lo hi : Int} : ¬ IsDO (.rng lo hi) := fun h => by rcases h with ⟨_, h⟩ | ⟨_, h⟩ <;> cases h
theorem IsDO.own {c : Addr} : ¬ IsDO (.own c) := fun h => by rcases h with ⟨_, h⟩ | ⟨_, h⟩ <;> cases h
theorem IsDO.xd {c : List (Str × V)} : ¬ IsDO (.xd c) := fun h => by rcases h with ⟨_, h⟩ | ⟨_, h⟩ <;> cases h
theorem Le.none {H H' : Hp} (s : Le H H') {a : Addr} (e : H' a = none) : H a = none := by
  cases h : H a with
  | none => rfl
  | some o => rcases s a o h with h | ⟨_, _, h⟩ <;> rw [e] at h <;> cases h

theorem SqL.le {K : PySem.W.Frag} {H H' : Hp} {a : Addr} {xs : List V} (h : SqL K H a xs) (s : Le H H') : SqL K H' a xs := by
  rcases h with (h | ⟨o, h⟩) | h
  · exact .inl (.inl (s.keep h IsDO.lst))
  · exact .inl (.inr ⟨o, s.keep h IsDO.frz⟩)
  · exact .inr h
theorem SqT.le {K : PySem.W.Frag} {H H' : Hp} {a : Addr} {xs : List V} (h : SqT K H a xs) (s : Le H H') : SqT K H' a xs := by
  rcases h with (h | ⟨o, h⟩) | h
  · exact .inl (.inl (s.keep h IsDO.tup))
  · exact .inl (.inr ⟨o, s.keep h IsDO.frz⟩)
  · exact .inr h
theorem Rd.le {H H' : Hp} {a : Addr} {u : HO} (h : Rd H a u) (s : Le H H') : Rd H' a u := by
  rcases h with h | ⟨o, h⟩
  · rcases s a _ h with h | ⟨ob, _, h⟩
    · exact .inl h
    · exact .inr ⟨ob, h⟩
  · exact .inr ⟨o, s.keep h IsDO.frz⟩

section
variable {G : Gc} {H H' : Hp}
mutual
theorem RepD.le : ∀ {d : D} {v : V}, RepD G H d v → Le H H' → RepD G H' d v
  | .non, _, h, _ => by simpa only [RepD] using h
  | .bl _, _, h, _ => by simpa only [RepD] using h
  | .int _, _, h, _ => by simpa only [RepD] using h
  | .str _, _, h, _ => by simpa only [RepD] using h
  | .tup xs, v, h, s => by
    simp only [RepD] at h ⊢
    obtain ⟨a, vs, e, q, r⟩ := h
    exact ⟨a, vs, e, s.keep q IsDO.tup, RepDs.le r s⟩
  | .lst xs, v, h, s => by
    simp only [RepD] at h ⊢
    obtain ⟨a, vs, e, q, r⟩ := h
    exact ⟨a, vs, e, SqL.le q s, RepDs.le r s⟩
  | .dict ks xs, v, h, s => by
    simp only [RepD] at h ⊢
    obtain ⟨a, vs, e, q, l, r⟩ := h
    exact ⟨a, vs, e, Rd.le q s, l, RepDs.le r s⟩
  | .fn n, v, h, s => by simpa only [RepD] using h
  | .rng lo hi, v, h, s => by
    simp only [RepD] at h ⊢
    obtain ⟨a, e, q⟩ := h
    exact ⟨a, e, s.keep q IsDO.rng⟩
  | .dt ks xs, v, h, s => by
    simp only [RepD] at h ⊢
    obtain ⟨a, vs, e, q, l, r⟩ := h
    exact ⟨a, vs, e, Rd.le q s, l, RepDs.le r s⟩
  | .obj c fs xs, v, h, s => by
    simp only [RepD] at h ⊢
    obtain ⟨a, dx, vs, e, q, l, r⟩ := h
    exact ⟨a, dx, vs, e, s.keep q IsDO.ins, l, RepDs.le r s⟩
theorem RepDs.le : ∀ {ds : List D} {vs : List V}, RepDs G H ds vs → Le H H' → RepDs G H' ds vs
  | [], _, h, _ => by simpa only [RepDs] using h
  | x :: xs, vs, h, s => by
    simp only [RepDs] at h ⊢
    obtain ⟨v, ws, e, p, q⟩ := h
    exact ⟨v, ws, e, RepD.le p s, RepDs.le q s⟩
end
theorem RepDs.nil_iff {vs : List V} : RepDs G H [] vs ↔ vs = [] := by simp only [RepDs]
theorem RepDs.cons {d : D} {ds : List D} {v : V} {vs : List V} (h : RepD G H d v) (t : RepDs G H ds vs) : RepDs G H (d :: ds) (v :: vs) := by
  simp only [RepDs]
  exact ⟨v, vs, rfl, h, t⟩
theorem RepDs.uncons {d : D} {ds : List D} {vs : List V} (h : RepDs G H (d :: ds) vs) : ∃ v ws, vs = v :: ws ∧ RepD G H d v ∧ RepDs G H ds ws := by
  simpa only [RepDs] using h
theorem RepDs.length : ∀ {ds : List D} {vs : List V}, RepDs G H ds vs → ds.length = vs.length
  | [], vs, h => by
    rw [RepDs.nil_iff] at h
    rw [h]
    rfl
  | d :: ds, vs, h => by
    obtain ⟨v, ws, rfl, _, t⟩ := h.uncons
    simp [RepDs.length t]
theorem RepDs.get : ∀ {ds : List D} {vs : List V} {i : Nat} {d : D}, RepDs G H ds vs → ds[i]? = some d → ∃ v, vs[i]? = some v ∧ RepD G H d v
  | [], _, _, _, _, e => by simp at e
  | d :: ds, vs, 0, x, h, e => by
    obtain ⟨v, ws, rfl, p, t⟩ := h.uncons
    simp at e
    subst e
    exact ⟨v, rfl, p⟩
  | d :: ds, vs, i + 1, x, h, e => by
    obtain ⟨v, ws, rfl, p, t⟩ := h.uncons
    obtain ⟨u, e1, r⟩ := RepDs.get (i := i) t (by simpa using e)
    exact ⟨u, by simpa using e1, r⟩
theorem RepDs.append : ∀ {ds es : List D} {vs ws : List V}, RepDs G H ds vs → RepDs G H es ws → RepDs G H (ds ++ es) (vs ++ ws)
  | [], _, vs, _, h, t => by
    rw [RepDs.nil_iff] at h
    subst h
    exact t
  | d :: ds, es, vs, ws, h, t => by
    obtain ⟨v, us, rfl, p, q⟩ := h.uncons
    exact RepDs.cons p (RepDs.append q t)
theorem RepDs.take : ∀ {ds : List D} {vs : List V} (n : Nat), RepDs G H ds vs → RepDs G H (ds.take n) (vs.take n)
  | [], vs, n, h => by
    rw [RepDs.nil_iff] at h
    subst h
    simp [RepDs]
  | d :: ds, vs, 0, h => by simp [RepDs]
  | d :: ds, vs, n + 1, h => by
    obtain ⟨v, us, rfl, p, q⟩ := h.uncons
    exact RepDs.cons p (RepDs.take n q)
theorem RepDs.drop : ∀ {ds : List D} {vs : List V} (n : Nat), RepDs G H ds vs → RepDs G H (ds.drop n) (vs.drop n)
  | [], vs, n, h => by
    rw [RepDs.nil_iff] at h
    subst h
    simp [RepDs]
  | d :: ds, vs, 0, h => h
  | d :: ds, vs, n + 1, h => by
    obtain ⟨v, us, rfl, p, q⟩ := h.uncons
    exact RepDs.drop n q
theorem RepDs.set : ∀ {ds : List D} {vs : List V} {d : D} {v : V} (i : Nat), RepDs G H ds vs → RepD G H d v → RepDs G H (ds.set i d) (vs.set i v)
  | [], vs, _, _, i, h, _ => by
    rw [RepDs.nil_iff] at h
    subst h
    simp [RepDs]
  | x :: ds, vs, d, v, 0, h, p => by
    obtain ⟨w, us, rfl, _, q⟩ := h.uncons
    exact RepDs.cons p q
  | x :: ds, vs, d, v, i + 1, h, p => by
    obtain ⟨w, us, rfl, z, q⟩ := h.uncons
    exact RepDs.cons z (RepDs.set i q p)
end

mutual
def RepV (G : Gc) (H Hs : Hp) : Val → V → List Addr → Prop
  | .sh d, v, as => as = [] ∧ RepD G Hs d v
  | .ol xs, v, as => ∃ a vs bs, v = .ref a ∧ as = a :: bs ∧ H a = some (.lst vs) ∧ RepVs G H Hs xs vs bs
  | .ot xs, v, as => ∃ a vs, v = .ref a ∧ Hs a = some (.tup vs) ∧ RepVs G H Hs xs vs as
  | .od ks xs, v, as => ∃ a vs bs, v = .ref a ∧ as = a :: bs ∧ H a = some (.dK (ks.zip vs)) ∧ ks.length = vs.length ∧ RepVs G H Hs xs vs bs
  | .odt ks xs, v, as => ∃ a vs bs, v = .ref a ∧ as = a :: bs ∧ H a = some (.dT (ks.zip vs)) ∧ ks.length = vs.length ∧ RepVs G H Hs xs vs bs
  | .oi c fs xs, v, as => ∃ a dx vs bs, v = .ref a ∧ as = a :: dx :: bs ∧ H a = some (.ins (G.C c) dx (fs.zip vs)) ∧ H dx = some (.own a) ∧ fs.length = vs.length ∧ RepVs G H Hs xs vs bs
def RepVs (G : Gc) (H Hs : Hp) : List Val → List V → List Addr → Prop
  | [], vs, as => vs = [] ∧ as = []
  | x :: xs, vs, as => ∃ v ws a1 a2, vs = v :: ws ∧ as = a1 ++ a2 ∧ RepV G H Hs x v a1 ∧ RepVs G H Hs xs ws a2
end

section
variable {G : Gc} {H H' Hs Hs' : Hp}
mutual
theorem RepV.stay : ∀ {x : Val} {v : V} {as : List Addr}, RepV G H Hs x v as → (∀ a ∈ as, ∀ o, H a = some o → H' a = some o) → Le Hs Hs' → RepV G H' Hs' x v as
  | .sh d, v, as, h, _, s => by
    simp only [RepV] at h ⊢
    exact ⟨h.1, RepD.le h.2 s⟩
  | .ol xs, v, as, h, k, s => by
    simp only [RepV] at h ⊢
    obtain ⟨a, vs, bs, e, rfl, q, r⟩ := h
    exact ⟨a, vs, bs, e, rfl, k a (by simp) _ q, RepVs.stay r (fun b hb => k b (by simp [hb])) s⟩
  | .ot xs, v, as, h, k, s => by
    simp only [RepV] at h ⊢
    obtain ⟨a, vs, e, q, r⟩ := h
    exact ⟨a, vs, e, s.keep q IsDO.tup, RepVs.stay r k s⟩
  | .od ks xs, v, as, h, k, s => by
    simp only [RepV] at h ⊢
    obtain ⟨a, vs, bs, e, rfl, q, l, r⟩ := h
    exact ⟨a, vs, bs, e, rfl, k a (by simp) _ q, l, RepVs.stay r (fun b hb => k b (by simp [hb])) s⟩
  | .odt ks xs, v, as, h, k, s => by
    simp only [RepV] at h ⊢
    obtain ⟨a, vs, bs, e, rfl, q, l, r⟩ := h
    exact ⟨a, vs, bs, e, rfl, k a (by simp) _ q, l, RepVs.stay r (fun b hb => k b (by simp [hb])) s⟩
  | .oi c fs xs, v, as, h, k, s => by
    simp only [RepV] at h ⊢
    obtain ⟨a, dx, vs, bs, e, rfl, q, q2, l, r⟩ := h
    exact ⟨a, dx, vs, bs, e, rfl, k a (by simp) _ q, k dx (by simp) _ q2, l, RepVs.stay r (fun b hb => k b (by simp [hb])) s⟩
theorem RepVs.stay : ∀ {xs : List Val} {vs : List V} {as : List Addr}, RepVs G H Hs xs vs as → (∀ a ∈ as, ∀ o, H a = some o → H' a = some o) → Le Hs Hs' → RepVs G H' Hs' xs vs as
  | [], vs, as, h, _, _ => by simpa only [RepVs] using h
  | x :: xs, vs, as, h, k, s => by
    simp only [RepVs] at h ⊢
    obtain ⟨v, ws, a1, a2, e, rfl, p, q⟩ := h
    exact ⟨v, ws, a1, a2, e, rfl, RepV.stay p (fun b hb => k b (by simp [hb])) s, RepVs.stay q (fun b hb => k b (by simp [hb])) s⟩
end
mutual
/-- every owned address is tracked -/
theorem RepV.there : ∀ {x : Val} {v : V} {as : List Addr}, RepV G H Hs x v as → ∀ a ∈ as, H a ≠ none
  | .sh d, v, as, h, a, ha => by
    simp only [RepV] at h
    rw [h.1] at ha
    cases ha
  | .ol xs, v, as, h, a, ha => by
    simp only [RepV] at h
    obtain ⟨b, vs, bs, e, rfl, q, r⟩ := h
    rcases List.mem_cons.mp ha with rfl | ha
    · rw [q]; exact fun z => nomatch z
    · exact RepVs.there r a ha
  | .ot xs, v, as, h, a, ha => by
    simp only [RepV] at h
    obtain ⟨b, vs, e, q, r⟩ := h
    exact RepVs.there r a ha
  | .od ks xs, v, as, h, a, ha => by
    simp only [RepV] at h
    obtain ⟨b, vs, bs, e, rfl, q, l, r⟩ := h
    rcases List.mem_cons.mp ha with rfl | ha
    · rw [q]; exact fun z => nomatch z
    · exact RepVs.there r a ha
  | .odt ks xs, v, as, h, a, ha => by
    simp only [RepV] at h
    obtain ⟨b, vs, bs, e, rfl, q, l, r⟩ := h
    rcases List.mem_cons.mp ha with rfl | ha
    · rw [q]; exact fun z => nomatch z
    · exact RepVs.there r a ha
  | .oi c fs xs, v, as, h, a, ha => by
    simp only [RepV] at h
    obtain ⟨b, dx, vs, bs, e, rfl, q, q2, l, r⟩ := h
    rcases List.mem_cons.mp ha with rfl | ha
    · rw [q]; exact fun z => nomatch z
    · rcases List.mem_cons.mp ha with rfl | ha
      · rw [q2]; exact fun z => nomatch z
      · exact RepVs.there r a ha
theorem RepVs.there : ∀ {xs : List Val} {vs : List V} {as : List Addr}, RepVs G H Hs xs vs as → ∀ a ∈ as, H a ≠ none
  | [], vs, as, h, a, ha => by
    simp only [RepVs] at h
    rw [h.2] at ha
    cases ha
  | x :: xs, vs, as, h, a, ha => by
    simp only [RepVs] at h
    obtain ⟨v, ws, a1, a2, e, rfl, p, q⟩ := h
    rcases List.mem_append.mp ha with ha | ha
    · exact RepV.there p a ha
    · exact RepVs.there q a ha
end
mutual
/-- handed over: where the owned objects stand in Hs', the value is shared -/
theorem RepV.frozen : ∀ {x : Val} {v : V} {as : List Addr}, RepV G H Hs x v as → (∀ a ∈ as, ∀ o, H a = some o → Hs' a = some o) → Le Hs Hs' → RepD G Hs' x.d v
  | .sh d, v, as, h, _, s => by
    simp only [RepV] at h
    rw [Val.d]
    exact RepD.le h.2 s
  | .ol xs, v, as, h, k, s => by
    simp only [RepV] at h
    rw [Val.d]
    simp only [RepD]
    obtain ⟨a, vs, bs, e, rfl, q, r⟩ := h
    exact ⟨a, vs, e, SqL.of (k a (by simp) _ q), RepVs.frozen r (fun b hb => k b (by simp [hb])) s⟩
  | .ot xs, v, as, h, k, s => by
    simp only [RepV] at h
    rw [Val.d]
    simp only [RepD]
    obtain ⟨a, vs, e, q, r⟩ := h
    exact ⟨a, vs, e, s.keep q IsDO.tup, RepVs.frozen r k s⟩
  | .od ks xs, v, as, h, k, s => by
    simp only [RepV] at h
    rw [Val.d]
    simp only [RepD]
    obtain ⟨a, vs, bs, e, rfl, q, l, r⟩ := h
    exact ⟨a, vs, e, .inl (k a (by simp) _ q), l, RepVs.frozen r (fun b hb => k b (by simp [hb])) s⟩
  | .odt ks xs, v, as, h, k, s => by
    simp only [RepV] at h
    rw [Val.d]
    simp only [RepD]
    obtain ⟨a, vs, bs, e, rfl, q, l, r⟩ := h
    exact ⟨a, vs, e, .inl (k a (by simp) _ q), l, RepVs.frozen r (fun b hb => k b (by simp [hb])) s⟩
  | .oi c fs xs, v, as, h, k, s => by
    simp only [RepV] at h
    rw [Val.d]
    simp only [RepD]
    obtain ⟨a, dx, vs, bs, e, rfl, q, q2, l, r⟩ := h
    exact ⟨a, dx, vs, e, k a (by simp) _ q, l, RepVs.frozen r (fun b hb => k b (by simp [hb])) s⟩
theorem RepVs.frozen : ∀ {xs : List Val} {vs : List V} {as : List Addr}, RepVs G H Hs xs vs as → (∀ a ∈ as, ∀ o, H a = some o → Hs' a = some o) → Le Hs Hs' → RepDs G Hs' (Val.ds xs) vs
  | [], vs, as, h, _, _ => by
    simp only [RepVs] at h
    simp only [Val.ds, RepDs]
    exact h.1
  | x :: xs, vs, as, h, k, s => by
    simp only [RepVs] at h
    obtain ⟨v, ws, a1, a2, rfl, rfl, p, q⟩ := h
    rw [Val.ds]
    exact RepDs.cons (RepV.frozen p (fun b hb => k b (by simp [hb])) s) (RepVs.frozen q (fun b hb => k b (by simp [hb])) s)
end
theorem RepV.sh_iff {d : D} {v : V} {as : List Addr} : RepV G H Hs (.sh d) v as ↔ as = [] ∧ RepD G Hs d v := by simp only [RepV]
theorem RepVs.nil_iff {vs : List V} {as : List Addr} : RepVs G H Hs [] vs as ↔ vs = [] ∧ as = [] := by simp only [RepVs]
theorem RepVs.uncons {x : Val} {xs : List Val} {vs : List V} {as : List Addr} (h : RepVs G H Hs (x :: xs) vs as) : ∃ v ws a1 a2, vs = v :: ws ∧ as = a1 ++ a2 ∧ RepV G H Hs x v a1 ∧ RepVs G H Hs xs ws a2 := by
  simpa only [RepVs] using h
theorem RepVs.cons {x : Val} {xs : List Val} {v : V} {vs : List V} {a1 a2 : List Addr} (h : RepV G H Hs x v a1) (t : RepVs G H Hs xs vs a2) : RepVs G H Hs (x :: xs) (v :: vs) (a1 ++ a2) := by
  simp only [RepVs]
  exact ⟨v, vs, a1, a2, rfl, rfl, h, t⟩
theorem RepVs.length : ∀ {xs : List Val} {vs : List V} {as : List Addr}, RepVs G H Hs xs vs as → xs.length = vs.length
  | [], _, _, h => by
    rw [RepVs.nil_iff] at h
    rw [h.1]
    rfl
  | x :: xs, _, _, h => by
    obtain ⟨v, ws, a1, a2, rfl, rfl, _, t⟩ := h.uncons
    simp [RepVs.length t]
theorem RepVs.shs : ∀ {ds : List D} {vs : List V}, RepDs G Hs ds vs → RepVs G H Hs (ds.map .sh) vs []
  | [], vs, h => by
    rw [RepDs.nil_iff] at h
    exact RepVs.nil_iff.mpr ⟨h, rfl⟩
  | d :: ds, vs, h => by
    obtain ⟨v, ws, rfl, p, q⟩ := h.uncons
    exact RepVs.cons (a1 := []) (RepV.sh_iff.mpr ⟨rfl, p⟩) (RepVs.shs q)
end

abbrev Env := List (Option Val)
def RepO (G : Gc) (H Hs : Hp) : Env → L2.St → List Addr → Prop
  | [], σ, as => σ = [] ∧ as = []
  | none :: η, σ, as => ∃ s σ', σ = s :: σ' ∧ RepO G H Hs η σ' as
  | some x :: η, σ, as => ∃ v σ' a1 a2, σ = some v :: σ' ∧ as = a1 ++ a2 ∧ RepV G H Hs x v a1 ∧ RepO G H Hs η σ' a2
section
variable {G : Gc} {H H' Hs Hs' : Hp}
theorem RepO.stay : ∀ {η : Env} {σ : L2.St} {as : List Addr}, RepO G H Hs η σ as → (∀ a ∈ as, ∀ o, H a = some o → H' a = some o) → Le Hs Hs' → RepO G H' Hs' η σ as
  | [], _, _, h, _, _ => h
  | none :: η, σ, as, h, k, s => by
    obtain ⟨t, σ', e, r⟩ := h
    exact ⟨t, σ', e, RepO.stay r k s⟩
  | some x :: η, σ, as, h, k, s => by
    obtain ⟨v, σ', a1, a2, e, rfl, p, r⟩ := h
    exact ⟨v, σ', a1, a2, e, rfl, p.stay (fun a ha => k a (by simp [ha])) s, RepO.stay r (fun a ha => k a (by simp [ha])) s⟩
theorem RepO.there : ∀ {η : Env} {σ : L2.St} {as : List Addr}, RepO G H Hs η σ as → ∀ a ∈ as, H a ≠ none
  | [], _, _, h, a, ha => by
    rw [h.2] at ha
    cases ha
  | none :: η, σ, as, h, a, ha => by
    obtain ⟨t, σ', e, r⟩ := h
    exact RepO.there r a ha
  | some x :: η, σ, as, h, a, ha => by
    obtain ⟨v, σ', a1, a2, e, rfl, p, r⟩ := h
    rcases List.mem_append.mp ha with ha | ha
    · exact p.there a ha
    · exact RepO.there r a ha
theorem RepO.length : ∀ {η : Env} {σ : L2.St} {as : List Addr}, RepO G H Hs η σ as → η.length = σ.length
  | [], _, _, h => by rw [h.1]; rfl
  | none :: η, σ, as, h => by
    obtain ⟨t, σ', rfl, r⟩ := h
    simp [RepO.length r]
  | some x :: η, σ, as, h => by
    obtain ⟨v, σ', a1, a2, rfl, rfl, p, r⟩ := h
    simp [RepO.length r]
theorem RepO.split : ∀ {π η : Env} {s : L2.St} {as : List Addr}, RepO G H Hs (π ++ η) s as → ∃ τ σ a1 a2, s = τ ++ σ ∧ as = a1 ++ a2 ∧ RepO G H Hs π τ a1 ∧ RepO G H Hs η σ a2
  | [], η, s, as, h => ⟨[], s, [], as, rfl, rfl, ⟨rfl, rfl⟩, h⟩
  | none :: π, η, s, as, h => by
    obtain ⟨t, σ', rfl, r⟩ := h
    obtain ⟨τ, σ, a1, a2, rfl, rfl, p, q⟩ := RepO.split r
    exact ⟨t :: τ, σ, a1, a2, rfl, rfl, ⟨t, τ, rfl, p⟩, q⟩
  | some x :: π, η, s, as, h => by
    obtain ⟨v, σ', b1, b2, rfl, rfl, p, r⟩ := h
    obtain ⟨τ, σ, a1, a2, rfl, rfl, p2, q⟩ := RepO.split r
    exact ⟨some v :: τ, σ, b1 ++ a1, a2, rfl, by rw [List.append_assoc], ⟨v, τ, b1, a1, rfl, rfl, p, p2⟩, q⟩
theorem RepO.join : ∀ {π η : Env} {τ σ : L2.St} {a1 a2 : List Addr}, RepO G H Hs π τ a1 → RepO G H Hs η σ a2 → RepO G H Hs (π ++ η) (τ ++ σ) (a1 ++ a2)
  | [], η, τ, σ, a1, a2, h, q => by
    obtain ⟨rfl, rfl⟩ := h
    exact q
  | none :: π, η, τ, σ, a1, a2, h, q => by
    obtain ⟨t, σ', rfl, r⟩ := h
    exact ⟨t, _, rfl, RepO.join r q⟩
  | some x :: π, η, τ, σ, a1, a2, h, q => by
    obtain ⟨v, σ', b1, b2, rfl, rfl, p, r⟩ := h
    exact ⟨v, _, b1, b2 ++ a2, rfl, by rw [List.append_assoc], p, RepO.join r q⟩
/-- a slot's value, and the rest -/
theorem RepO.at : ∀ {η : Env} {σ : L2.St} {as : List Addr} {i : Nat} {x : Val}, RepO G H Hs η σ as → η[i]? = some (some x) →
    ∃ v a1 a2 a3, σ[i]? = some (some v) ∧ as = a1 ++ (a2 ++ a3) ∧ RepV G H Hs x v a2 ∧
      ∀ (H' Hs' : Hp) (y : Option Val) (u : Option V) (b : List Addr), (match y with | some z => ∃ w, u = some w ∧ RepV G H' Hs' z w b | none => b = []) →
        (∀ a ∈ a1 ++ a3, ∀ o, H a = some o → H' a = some o) → Le Hs Hs' → RepO G H' Hs' (η.set i y) (σ.set i u) (a1 ++ (b ++ a3))
  | [], _, _, i, x, _, e => by simp at e
  | none :: η, σ, as, 0, x, h, e => by simp at e
  | some z :: η, σ, as, 0, x, h, e => by
    obtain ⟨v, σ', b1, b2, rfl, rfl, p, r⟩ := h
    simp at e
    subst e
    refine ⟨v, [], b1, b2, rfl, rfl, p, fun H' Hs' y u b hy k s => ?_⟩
    have r' := r.stay (fun a ha => k a (by simp [ha])) s
    cases y with
    | none =>
      simp only at hy
      subst hy
      exact ⟨u, σ', rfl, r'⟩
    | some w =>
      obtain ⟨w', rfl, q⟩ := hy
      exact ⟨w', σ', b, b2, rfl, rfl, q, r'⟩
  | none :: η, σ, as, i + 1, x, h, e => by
    obtain ⟨t, σ', rfl, r⟩ := h
    obtain ⟨v, a1, a2, a3, e1, e2, p, k⟩ := RepO.at (i := i) r (by simpa using e)
    refine ⟨v, a1, a2, a3, by simpa using e1, e2, p, fun H' Hs' y u b hy k1 s => ?_⟩
    exact ⟨t, _, rfl, k H' Hs' y u b hy k1 s⟩
  | some z :: η, σ, as, i + 1, x, h, e => by
    obtain ⟨w, σ', b1, b2, rfl, rfl, pz, r⟩ := h
    obtain ⟨v, a1, a2, a3, e1, rfl, p, k⟩ := RepO.at (i := i) r (by simpa using e)
    refine ⟨v, b1 ++ a1, a2, a3, by simpa using e1, by simp, p, fun H' Hs' y u b hy k1 s => ?_⟩
    refine ⟨w, _, b1, a1 ++ (b ++ a3), rfl, by simp, pz.stay (fun a ha => k1 a (by simp [ha])) s, k H' Hs' y u b hy (fun a ha => k1 a ?_) s⟩
    simp only [List.mem_append] at ha ⊢
    rcases ha with ha | ha <;> simp [ha]
/-- a slot is stored -/
theorem RepO.store : ∀ {η : Env} {σ : L2.St} {as : List Addr} (i : Nat) (y : Option Val) (u : Option V) (b : List Addr), RepO G H Hs η σ as → i < η.length →
    (match y with | some z => ∃ w, u = some w ∧ RepV G H Hs z w b | none => b = []) → ∃ a1 a2 a3, as = a1 ++ (a2 ++ a3) ∧ RepO G H Hs (η.set i y) (σ.set i u) (a1 ++ (b ++ a3))
  | [], _, _, i, _, _, _, _, hi, _ => by simp at hi
  | none :: η, σ, as, 0, y, u, b, h, _, hy => by
    obtain ⟨t, σ', rfl, r⟩ := h
    refine ⟨[], [], as, rfl, ?_⟩
    cases y with
    | none =>
      simp only at hy
      subst hy
      exact ⟨u, σ', rfl, r⟩
    | some w =>
      obtain ⟨w', rfl, q⟩ := hy
      exact ⟨w', σ', b, as, rfl, rfl, q, r⟩
  | some z :: η, σ, as, 0, y, u, b, h, _, hy => by
    obtain ⟨v, σ', b1, b2, rfl, rfl, p, r⟩ := h
    refine ⟨[], b1, b2, rfl, ?_⟩
    cases y with
    | none =>
      simp only at hy
      subst hy
      exact ⟨u, σ', rfl, r⟩
    | some w =>
      obtain ⟨w', rfl, q⟩ := hy
      exact ⟨w', σ', b, b2, rfl, rfl, q, r⟩
  | none :: η, σ, as, i + 1, y, u, b, h, hi, hy => by
    obtain ⟨t, σ', rfl, r⟩ := h
    obtain ⟨a1, a2, a3, e, q⟩ := RepO.store i y u b r (by simpa using hi) hy
    exact ⟨a1, a2, a3, e, t, _, rfl, q⟩
  | some z :: η, σ, as, i + 1, y, u, b, h, hi, hy => by
    obtain ⟨v, σ', b1, b2, rfl, rfl, p, r⟩ := h
    obtain ⟨a1, a2, a3, rfl, q⟩ := RepO.store i y u b r (by simpa using hi) hy
    exact ⟨b1 ++ a1, a2, a3, by simp, v, _, b1, _, rfl, by simp, p, q⟩
end

/-- tuples are shared from the beginning -/
def Tps (H Hs : Hp) : Prop := ∀ q vs, H q = some (.tup vs) → Hs q = some (.tup vs)
structure Rep (G : Gc) (η : Env) (σ : L2.St) (as : List Addr) (H Hs : Hp) : Prop where
  le : Le Hs H
  env : RepO G H Hs η σ as
  nd : as.Nodup
  off : ∀ a ∈ as, Hs a = none
  tp : Tps H Hs
theorem Tps.upd {H Hs : Hp} {a : Addr} {o : HO} (h : Tps H Hs) (n : ∀ vs, o ≠ .tup vs) : Tps (L2.upd H a o) Hs := fun q vs e => by
  by_cases z : q = a
  · subst z
    rw [upd_same] at e
    exact absurd (Option.some.inj e) (n vs)
  · rw [upd_ne z] at e
    exact h q vs e
theorem Tps.more {H Hs Hs' : Hp} (h : Tps H Hs) (s : Sub Hs Hs') : Tps H Hs' := fun q vs e => s q _ (h q vs e)
theorem Tps.tup {H Hs : Hp} {a : Addr} {vs : List V} (h : Tps H Hs) : Tps (L2.upd H a (.tup vs)) (L2.upd Hs a (.tup vs)) := fun q ws e => by
  by_cases z : q = a
  · subst z
    rw [upd_same] at e ⊢
    exact e
  · rw [upd_ne z] at e ⊢
    exact h q ws e
/-- what a run may do: owned at first as, then as' -/
structure Ext (as : List Addr) (H Hs : Hp) (as' : List Addr) (H' Hs' : Hp) : Prop where
  keep : ∀ b o, H b = some o → b ∉ as → H' b = some o
  grow : Sub Hs Hs'
  new : ∀ b, Hs' b ≠ none → Hs b ≠ none ∨ H b = none ∨ b ∈ as
  anew : ∀ a ∈ as', a ∈ as ∨ H a = none
theorem Ext.refl {as : List Addr} {H Hs : Hp} : Ext as H Hs as H Hs := ⟨fun _ _ e _ => e, Sub.refl, fun _ h => .inl h, fun _ h => .inl h⟩
theorem Ext.trans {as as' as'' : List Addr} {H Hs H' Hs' H'' Hs'' : Hp} (x : Ext as H Hs as' H' Hs') (y : Ext as' H' Hs' as'' H'' Hs'') : Ext as H Hs as'' H'' Hs'' := by
  have back : ∀ b, H' b = none → H b = none ∨ b ∈ as := fun b h => by
    cases e : H b with
    | none => exact .inl rfl
    | some o =>
      by_cases hb : b ∈ as
      · exact .inr hb
      · rw [x.keep b o e hb] at h
        cases h
  refine ⟨fun b o e hb => ?_, x.grow.trans y.grow, fun b h => ?_, fun a ha => ?_⟩
  · refine y.keep b o (x.keep b o e hb) fun hb' => ?_
    rcases x.anew b hb' with z | z
    · exact hb z
    · rw [e] at z
      cases z
  · rcases y.new b h with z | z | z
    · exact x.new b z
    · exact .inr (back b z)
    · rcases x.anew b z with z | z
      · exact .inr (.inr z)
      · exact .inr (.inl z)
  · rcases y.anew a ha with z | z
    · exact x.anew a z
    · exact (back a z).symm
end Wp
end
section
set_option Elab.async false
set_option linter.all false
set_option maxRecDepth 100000
namespace Wp
open PySem PySem.Spec PyProof.Rows L2

inductive Res (α : Type) where
  | ok (a : α) (η : Env)
  | exc (c : Nat) (p : Option Val) (η : Env)
inductive Opv where
  | pend (x : Val)
  | slot (i : Nat)
  deriving Inhabited
def Opv.p : Opv → Option Val
  | .pend x => some x
  | .slot _ => none
def Opv.lnk (σ : L2.St) (v : V) : Opv → Prop
  | .pend _ => True
  | .slot i => σ[i]? = some (some v)

/-- the module -/
structure Md where
  prog : Program
  w : World
  K : PySem.W.Frag
  mg : Str → Option Value
  base : Heap
  C : Nat → Addr
abbrev Md.G (M : Md) : Gc := ⟨M.K, M.C⟩
def mdOf (X : Cx) (C : Nat → Addr) : Md := ⟨X.prog, X.w, X.K, X.mg, X.base, C⟩

/-- an exception with its field -/
def XRep (H : Hp) (p : Option Val) (v : Option V) (dx : Option Addr) : Prop := match p with
  | none => dx = none
  | some _ => ∃ d u, dx = some d ∧ v = some u ∧ H d = some (.xd [("value", u)])
def PostX (G : Gc) (W : WX) (σ : L2.St) (as : List Addr) (H Hs : Hp) (c : Nat) (p : Option Val) (η' : Env) : Prop :=
  ∀ v dx as' H' Hs', Rep G (p :: η') (v :: σ) as' H' Hs' → XRep H' p v dx → Ext as H Hs as' H' Hs' → W (.ref (G.C c)) dx σ H'
def PostO (G : Gc) (W : WX) (σ : L2.St) (as : List Addr) (H Hs : Hp) (Q : VK) : Res Opv → Prop
  | .ok o η' => ∀ v as' H' Hs', Rep G (o.p :: η') (some v :: σ) as' H' Hs' → o.lnk σ v → Ext as H Hs as' H' Hs' → Q v H'
  | .exc c p η' => PostX G W σ as H Hs c p η'
abbrev FO := Env → Option (Res Opv)
/-- an expression, read as data -/
def OkO (M : Md) (X : Cx) (W : WX) (e : Expr) (f : FO) : Prop :=
  ∃ t, PE X e t ∧ ∀ η σ as H Hs r Q, Rep M.G η σ as H Hs → f η = some r → PostO M.G W σ as H Hs Q r → t σ H Q

theorem Rep.sub {G : Gc} {π η : Env} {τ σ : L2.St} {as : List Addr} {H Hs : Hp} (h : Rep G (π ++ η) (τ ++ σ) as H Hs) (hl : τ.length = π.length) :
    ∃ a1 a2, as = a1 ++ a2 ∧ RepO G H Hs π τ a1 ∧ Rep G η σ a2 H Hs := by
  obtain ⟨τ', σ', a1, a2, e, rfl, p, q⟩ := RepO.split h.env
  have l1 := p.length
  obtain ⟨rfl, rfl⟩ := List.append_inj e (hl.trans l1)
  exact ⟨a1, a2, rfl, p, h.le, q, (List.nodup_append.mp h.nd).2.1, fun a ha => h.off a (by simp [ha]), h.tp⟩
/-- what stands beside stays beside -/
theorem Rep.frame {G : Gc} {π : Env} {τ : L2.St} {η' : Env} {σ' : L2.St} {a1 a2 b : List Addr} {H Hs H' Hs' : Hp} (h1 : RepO G H Hs π τ a1) (nd : (a1 ++ a2).Nodup) (off : ∀ a ∈ a1, Hs a = none)
    (h : Rep G η' σ' b H' Hs') (x : Ext a2 H Hs b H' Hs') : Rep G (π ++ η') (τ ++ σ') (a1 ++ b) H' Hs' ∧ Ext (a1 ++ a2) H Hs (a1 ++ b) H' Hs' := by
  obtain ⟨n1, n2, n3⟩ := List.nodup_append.mp nd
  have dis : ∀ a ∈ a1, a ∉ a2 := fun a ha hb => n3 a ha a hb rfl
  refine ⟨⟨h.le, RepO.join (h1.stay (fun a ha o e => x.keep a o e (dis a ha)) x.grow.le) h.env, List.nodup_append.mpr ⟨n1, h.nd, fun a ha c hc e => ?_⟩, fun a ha => ?_, h.tp⟩,
    fun c o e hc => x.keep c o e fun z => hc (by simp [z]), x.grow, fun c z => ?_, fun a ha => ?_⟩
  · subst e
    rcases x.anew a hc with z | z
    · exact dis a ha z
    · exact h1.there a ha z
  · rcases List.mem_append.mp ha with ha | ha
    · cases e : Hs' a with
      | none => rfl
      | some o =>
        rcases x.new a (by rw [e]; exact fun z => nomatch z) with z | z | z
        · exact absurd (off a ha) z
        · exact absurd z (h1.there a ha)
        · exact absurd z (dis a ha)
    · exact h.off a ha
  · rcases x.new c z with z | z | z
    · exact .inl z
    · exact .inr (.inl z)
    · exact .inr (.inr (by simp [z]))
  · rcases List.mem_append.mp ha with ha | ha
    · exact .inl (by simp [ha])
    · rcases x.anew a ha with z | z
      · exact .inl (by simp [z])
      · exact .inr z
theorem Ext.more {as as' : List Addr} {H Hs H' Hs' : Hp} (a1 : List Addr) (x : Ext as H Hs as' H' Hs') : Ext (a1 ++ as) H Hs as' H' Hs' :=
  ⟨fun c o e hc => x.keep c o e fun z => hc (by simp [z]), x.grow, fun c z => (x.new c z).imp id (Or.imp id fun z => by simp [z]), fun a ha => (x.anew a ha).imp (fun z => by simp [z]) id⟩

section
variable {M : Md} {X : Cx} {W : WX} {e : Expr} {f : FO}
/-- with values pending -/
theorem OkO.framed (h : OkO M X W e f) : ∃ t, PE X e t ∧ ∀ π τ η σ as H Hs r Q, Rep M.G (π ++ η) (τ ++ σ) as H Hs → τ.length = π.length → f η = some r →
    (match r with
      | .ok o η' => ∀ v as' H' Hs', Rep M.G (π ++ (o.p :: η')) (τ ++ (some v :: σ)) as' H' Hs' → o.lnk σ v → Ext as H Hs as' H' Hs' → Q v H'
      | .exc c p η' => PostX M.G W σ as H Hs c p η') → t σ H Q := by
  obtain ⟨t, ht, hh⟩ := h
  refine ⟨t, ht, fun π τ η σ as H Hs r Q hR hl hf hp => ?_⟩
  obtain ⟨a1, a2, rfl, p, q⟩ := hR.sub hl
  have off : ∀ a ∈ a1, Hs a = none := fun a ha => hR.off a (by simp [ha])
  refine hh η σ a2 H Hs r Q q hf ?_
  cases r with
  | ok o η' =>
    intro v as' H' Hs' hR' hk hx
    obtain ⟨r1, r2⟩ := Rep.frame p hR.nd off hR' hx
    exact hp v _ H' Hs' r1 hk r2
  | exc c pp η' =>
    intro v dx as' H' Hs' hR' hX hx
    exact hp v dx as' H' Hs' hR' hX (hx.more a1)
end

abbrev RO (α : Type) := Option (Res α)
def bindR {α β : Type} (x : RO α) (k : α → Env → RO β) : RO β := match x with
  | none => none
  | some (.ok a η) => k a η
  | some (.exc c p η) => some (.exc c p η)
def okR {α : Type} (a : α) (η : Env) : RO α := some (.ok a η)
@[simp] theorem bindR_ok {α β : Type} (a : α) (η : Env) (k : α → Env → RO β) : bindR (okR a η) k = k a η := rfl
@[simp] theorem bindR_some {α β : Type} (a : α) (η : Env) (k : α → Env → RO β) : bindR (some (.ok a η)) k = k a η := rfl
@[simp] theorem bindR_none {α β : Type} (k : α → Env → RO β) : bindR none k = none := rfl
@[simp] theorem bindR_exc {α β : Type} (c : Nat) (p : Option Val) (η : Env) (k : α → Env → RO β) : bindR (some (.exc c p η)) k = some (.exc c p η) := rfl
theorem bindR_inv {α β : Type} {x : RO α} {k : α → Env → RO β} {r : Res β} (h : bindR x k = some r) : (∃ a η, x = some (.ok a η) ∧ k a η = some r) ∨ ∃ c p η, x = some (.exc c p η) ∧ r = .exc c p η := by
  cases x with
  | none => cases h
  | some y =>
    cases y with
    | ok a η => exact .inl ⟨a, η, rfl, h⟩
    | exc c p η => exact .inr ⟨c, p, η, rfl, (Option.some.inj h).symm⟩

section
variable {G : Gc} {η : Env} {σ : L2.St} {as : List Addr} {H Hs H' Hs' : Hp}
/-- what is new and a tuple is shared at once -/
def addT (H H' Hs : Hp) : Hp := fun b => match H b with
  | some _ => Hs b
  | none => (match H' b with
    | some (.tup vs) => some (.tup vs)
    | _ => Hs b)
theorem addT_some {H H' Hs : Hp} {b : Addr} {o : HO} (e : H b = some o) : addT H H' Hs b = Hs b := by unfold addT; rw [e]
theorem addT_tup {H H' Hs : Hp} {b : Addr} {vs : List V} (e : H b = none) (e' : H' b = some (.tup vs)) : addT H H' Hs b = some (.tup vs) := by unfold addT; rw [e, e']
theorem addT_not {H H' Hs : Hp} {b : Addr} (e' : ∀ vs, H' b ≠ some (.tup vs)) : addT H H' Hs b = Hs b := by
  unfold addT
  cases e : H b with
  | some o => rfl
  | none =>
    cases e2 : H' b with
    | none => rfl
    | some o => cases o <;> first | rfl | exact absurd e2 (e' _)
theorem addT_of {H H' Hs : Hp} (h : ∀ b vs, H b = none → H' b ≠ some (.tup vs)) : addT H H' Hs = Hs := funext fun b => by
  cases e : H b with
  | some o => exact addT_some e
  | none => exact addT_not (h b · e)
theorem addT_self {H Hs : Hp} : addT H H Hs = Hs := addT_of fun b vs e => by rw [e]; exact fun z => nomatch z
theorem addT_upd {H Hs : Hp} {p : Addr} {o : HO} (n : ∀ vs, o ≠ .tup vs) : addT H (L2.upd H p o) Hs = Hs := addT_of fun b vs e z => by
  by_cases q : b = p
  · subst q
    rw [upd_same] at z
    exact n vs (Option.some.inj z)
  · rw [upd_ne q, e] at z
    cases z
theorem addT_sub {H H' Hs : Hp} (s : Le Hs H) : Sub Hs (addT H H' Hs) := fun b o e => by
  cases e1 : H b with
  | some o' => rw [addT_some e1]; exact e
  | none =>
    have := s.none e1
    rw [this] at e
    cases e
theorem addT_le {H H' Hs : Hp} (s : Le Hs H) (k : Sub H H') : Le (addT H H' Hs) H' := fun b o e => by
  cases e1 : H b with
  | some o' =>
    rw [addT_some e1] at e
    rcases s b o e with z | ⟨ob, z1, z2⟩
    · exact .inl (k b o z)
    · exact .inr ⟨ob, z1, k b _ z2⟩
  | none =>
    cases e2 : H' b with
    | none => rw [addT_not (by rw [e2]; exact fun _ z => nomatch z), s.none e1] at e; cases e
    | some o' =>
      cases o' <;> first
        | (rw [addT_tup e1 e2] at e; exact .inl e)
        | (rw [addT_not (by rw [e2]; exact fun _ z => nomatch z), s.none e1] at e; cases e)
theorem addT_tps {H H' Hs : Hp} (h : Tps H Hs) (k : Sub H H') : Tps H' (addT H H' Hs) := fun q vs e => by
  cases e1 : H q with
  | none => exact addT_tup e1 e
  | some o =>
    have := k q o e1
    rw [this] at e
    rw [addT_some e1]
    exact h q vs (by rw [e1]; exact e)
theorem addT_new {H H' Hs : Hp} {b : Addr} (z : addT H H' Hs b ≠ none) : Hs b ≠ none ∨ H b = none := by
  cases e1 : H b with
  | none => exact .inr rfl
  | some o => rw [addT_some e1] at z; exact .inl z
mutual
/-- what is owned is no tuple -/
theorem RepV.notup {Hs : Hp} : ∀ {x : Val} {v : V} {as : List Addr}, RepV G H Hs x v as → ∀ a ∈ as, ∀ vs, H a ≠ some (.tup vs)
  | .sh d, v, as, h, a, ha => by
    simp only [RepV] at h
    rw [h.1] at ha
    cases ha
  | .ol xs, v, as, h, a, ha => by
    simp only [RepV] at h
    obtain ⟨b, vs, bs, e, rfl, q, r⟩ := h
    rcases List.mem_cons.mp ha with rfl | ha
    · rw [q]; exact fun _ z => nomatch z
    · exact RepVs.notup r a ha
  | .ot xs, v, as, h, a, ha => by
    simp only [RepV] at h
    obtain ⟨b, vs, e, q, r⟩ := h
    exact RepVs.notup r a ha
  | .od ks xs, v, as, h, a, ha => by
    simp only [RepV] at h
    obtain ⟨b, vs, bs, e, rfl, q, l, r⟩ := h
    rcases List.mem_cons.mp ha with rfl | ha
    · rw [q]; exact fun _ z => nomatch z
    · exact RepVs.notup r a ha
  | .odt ks xs, v, as, h, a, ha => by
    simp only [RepV] at h
    obtain ⟨b, vs, bs, e, rfl, q, l, r⟩ := h
    rcases List.mem_cons.mp ha with rfl | ha
    · rw [q]; exact fun _ z => nomatch z
    · exact RepVs.notup r a ha
  | .oi c fs xs, v, as, h, a, ha => by
    simp only [RepV] at h
    obtain ⟨b, dx, vs, bs, e, rfl, q, q2, l, r⟩ := h
    rcases List.mem_cons.mp ha with rfl | ha
    · rw [q]; exact fun _ z => nomatch z
    · rcases List.mem_cons.mp ha with rfl | ha
      · rw [q2]; exact fun _ z => nomatch z
      · exact RepVs.notup r a ha
theorem RepVs.notup {Hs : Hp} : ∀ {xs : List Val} {vs : List V} {as : List Addr}, RepVs G H Hs xs vs as → ∀ a ∈ as, ∀ vs, H a ≠ some (.tup vs)
  | [], vs, as, h, a, ha => by
    simp only [RepVs] at h
    rw [h.2] at ha
    cases ha
  | x :: xs, vs, as, h, a, ha => by
    simp only [RepVs] at h
    obtain ⟨v, ws, a1, a2, e, rfl, p, q⟩ := h
    rcases List.mem_append.mp ha with ha | ha
    · exact RepV.notup p a ha
    · exact RepVs.notup q a ha
end
/-- the heap has grown beside -/
theorem Rep.grown (h : Rep G η σ as H Hs) (k : Sub H H') : Rep G η σ as H' (addT H H' Hs) ∧ Ext as H Hs as H' (addT H H' Hs) := by
  have sb := addT_sub (H' := H') h.le
  refine ⟨⟨addT_le h.le k, h.env.stay (fun a _ o e => k a o e) sb.le, h.nd, fun a ha => ?_, addT_tps h.tp k⟩, fun c o e _ => k c o e, sb, fun c z => ?_, fun a ha => .inl ha⟩
  · cases e : H a with
    | none => exact absurd e (h.env.there a ha)
    | some o => rw [addT_some e]; exact h.off a ha
  · rcases addT_new z with z | z
    · exact .inl z
    · exact .inr (.inl z)
/-- a new value on top; its tuples are shared at once -/
theorem Rep.push' {x : Val} {v : V} {b : List Addr} (h : Rep G η σ as H Hs) (k : Sub H H') (r : RepV G H' (addT H H' Hs) x v b) (nd : b.Nodup) (new : ∀ a ∈ b, H a = none) :
    Rep G (some x :: η) (some v :: σ) (b ++ as) H' (addT H H' Hs) ∧ Ext as H Hs (b ++ as) H' (addT H H' Hs) := by
  have hs : ∀ a, H a = none → Hs a = none := fun a e => h.le.none e
  obtain ⟨g, gx⟩ := h.grown k
  refine ⟨⟨g.le, ⟨v, σ, b, as, rfl, rfl, r, g.env⟩, List.nodup_append.mpr ⟨nd, h.nd, fun a ha c hc e => ?_⟩, fun a ha => ?_, g.tp⟩, gx.keep, gx.grow, gx.new, fun a ha => ?_⟩
  · subst e
    exact h.env.there a hc (new a ha)
  · rcases List.mem_append.mp ha with ha | ha
    · rw [addT_not (r.notup a ha)]
      exact hs a (new a ha)
    · exact g.off a ha
  · rcases List.mem_append.mp ha with ha | ha
    · exact .inr (new a ha)
    · exact .inl ha
/-- a new value on top, no new tuples -/
theorem Rep.push {x : Val} {v : V} {b : List Addr} (h : Rep G η σ as H Hs) (k : Sub H H') (r : RepV G H' Hs x v b) (nd : b.Nodup) (new : ∀ a ∈ b, H a = none) (nt : addT H H' Hs = Hs) :
    Rep G (some x :: η) (some v :: σ) (b ++ as) H' Hs ∧ Ext as H Hs (b ++ as) H' Hs := by
  have := h.push' (x := x) (v := v) (b := b) k (by rw [nt]; exact r) nd new
  rw [nt] at this
  exact this
theorem Rep.push_sh {d : D} {v : V} (h : Rep G η σ as H Hs) (r : RepD G Hs d v) : Rep G (some (.sh d) :: η) (some v :: σ) as H Hs :=
  (h.push (b := []) Sub.refl (RepV.sh_iff.mpr ⟨rfl, r⟩) List.nodup_nil (fun a ha => nomatch ha) addT_self).1
theorem Rep.pop {x : Option Val} {v : Option V} (h : Rep G (x :: η) (v :: σ) as H Hs) : ∃ as', Rep G η σ as' H Hs ∧ (∀ a ∈ as', a ∈ as) := by
  obtain ⟨a1, a2, rfl, _, q⟩ := Rep.sub (π := [x]) (τ := [v]) h rfl
  exact ⟨a2, q, fun a ha => by simp [ha]⟩
theorem Ext.less {as as' bs : List Addr} (x : Ext as H Hs as' H' Hs') (h : ∀ a ∈ bs, a ∈ as') : Ext as H Hs bs H' Hs' := ⟨x.keep, x.grow, x.new, fun a ha => x.anew a (h a ha)⟩
/-- the shared heap with what stands at some addresses -/
def lay (H Hs : Hp) (l : List Addr) : Hp := fun b => if b ∈ l then H b else Hs b
theorem lay_in {H Hs : Hp} {l : List Addr} {a : Addr} (h : a ∈ l) : lay H Hs l a = H a := by unfold lay; rw [if_pos h]
theorem lay_out {H Hs : Hp} {l : List Addr} {a : Addr} (h : a ∉ l) : lay H Hs l a = Hs a := by unfold lay; rw [if_neg h]
theorem lay_sub {H Hs : Hp} {l : List Addr} (h : ∀ a ∈ l, Hs a = none) : Sub Hs (lay H Hs l) := fun b o e => by
  by_cases hb : b ∈ l
  · rw [h b hb] at e
    cases e
  · rw [lay_out hb]
    exact e
theorem lay_le {H Hs : Hp} {l : List Addr} (h : Le Hs H) : Le (lay H Hs l) H := fun b o e => by
  by_cases hb : b ∈ l
  · rw [lay_in hb] at e
    exact .inl e
  · rw [lay_out hb] at e
    exact h b o e
/-- the value at a place becomes shared -/
theorem Rep.freeze {i : Nat} {x : Val} (h : Rep G η σ as H Hs) (e : η[i]? = some (some x)) : ∃ v as' Hs', σ[i]? = some (some v) ∧ Rep G (η.set i (some (.sh x.d))) σ as' H Hs' ∧ Ext as H Hs as' H Hs' ∧ RepD G Hs' x.d v := by
  obtain ⟨v, a1, a2, a3, ev, rfl, r, k⟩ := h.env.at e
  obtain ⟨n1, n23, n4⟩ := List.nodup_append.mp h.nd
  obtain ⟨n2, n3, n5⟩ := List.nodup_append.mp n23
  have off2 : ∀ a ∈ a2, Hs a = none := fun a ha => h.off a (by simp [ha])
  have sb := lay_sub (H := H) off2
  have fr : RepD G (lay H Hs a2) x.d v := r.frozen (fun a ha o e => by rw [lay_in ha]; exact e) sb.le
  have k2 := k H (lay H Hs a2) (some (.sh x.d)) (some v) [] ⟨v, rfl, RepV.sh_iff.mpr ⟨rfl, fr⟩⟩ (fun a _ o e => e) sb.le
  have es : σ.set i (some v) = σ := by
    refine List.ext_getElem? fun j => ?_
    by_cases hj : j = i
    · subst hj
      rw [List.getElem?_set_self (List.getElem?_eq_some_iff.mp ev).1, ev]
    · rw [List.getElem?_set_ne (Ne.symm hj)]
  rw [es] at k2
  refine ⟨v, a1 ++ ([] ++ a3), lay H Hs a2, ev, ⟨lay_le h.le, k2, ?_, fun a ha => ?_, h.tp.more sb⟩, ⟨fun b o e _ => e, sb, fun b z => ?_, fun a ha => .inl ?_⟩, fr⟩
  · rw [List.nil_append]
    exact List.nodup_append.mpr ⟨n1, n3, fun a ha b hb => n4 a ha b (by simp [hb])⟩
  · have hm : a ∈ a1 ∨ a ∈ a3 := by simpa using ha
    have hn : a ∉ a2 := fun z => by
      rcases hm with hm | hm
      · exact n4 a hm a (by simp [z]) rfl
      · exact n5 a z a hm rfl
    rw [lay_out hn]
    exact h.off a (by rcases hm with hm | hm <;> simp [hm])
  · by_cases hb : b ∈ a2
    · exact .inr (.inr (by simp [hb]))
    · rw [lay_out hb] at z
      exact .inl z
  · have hm : a ∈ a1 ∨ a ∈ a3 := by simpa using ha
    rcases hm with hm | hm <;> simp [hm]
/-- the value on top becomes shared -/
theorem Rep.freeze0 {x : Val} {v : V} (h : Rep G (some x :: η) (some v :: σ) as H Hs) : ∃ as' Hs', Rep G (some (.sh x.d) :: η) (some v :: σ) as' H Hs' ∧ Ext as H Hs as' H Hs' ∧ RepD G Hs' x.d v := by
  obtain ⟨u, as', Hs', e, r, x1, x2⟩ := h.freeze (i := 0) rfl
  have e' : v = u := by simpa using e
  subst e'
  exact ⟨as', Hs', r, x1, x2⟩
end
end Wp
end
section
set_option Elab.async false
set_option linter.all false
set_option maxRecDepth 100000
namespace Wp
open PySem PySem.Spec PyProof.Rows L2

def RepT (G : Gc) (H Hs : Hp) : D → V → Prop
  | .tup xs, v => ∃ a vs, v = .ref a ∧ H a = some (.tup vs) ∧ RepDs G Hs xs vs
  | .lst xs, v => ∃ a vs, v = .ref a ∧ SqL G.K H a vs ∧ RepDs G Hs xs vs
  | .dict ks xs, v => ∃ a vs, v = .ref a ∧ Rd H a (.dK (ks.zip vs)) ∧ ks.length = vs.length ∧ RepDs G Hs xs vs
  | .dt ks xs, v => ∃ a vs, v = .ref a ∧ Rd H a (.dT (ks.zip vs)) ∧ ks.length = vs.length ∧ RepDs G Hs xs vs
  | .fn n, v => v = .ref (G.C n)
  | .rng lo hi, v => ∃ a, v = .ref a ∧ H a = some (.rng lo hi)
  | .obj c fs xs, v => ∃ a dx vs, v = .ref a ∧ H a = some (.ins (G.C c) dx (fs.zip vs)) ∧ fs.length = vs.length ∧ RepDs G Hs xs vs
  | .non, v => v = .non
  | .bl b, v => v = .bl b
  | .int i, v => v = .int i
  | .str x, v => v = .str x
def RepTs (G : Gc) (H Hs : Hp) : List D → List V → Prop
  | [], vs => vs = []
  | d :: ds, vs => ∃ v ws, vs = v :: ws ∧ RepT G H Hs d v ∧ RepTs G H Hs ds ws
section
variable {G : Gc} {H Hs Hs' : Hp}
theorem RepD.top {d : D} {v : V} (h : RepD G Hs d v) (s : Le Hs H) : RepT G H Hs d v := by
  cases d with
  | tup xs =>
    simp only [RepD] at h
    obtain ⟨a, vs, e, q, r⟩ := h
    exact ⟨a, vs, e, s.keep q IsDO.tup, r⟩
  | lst xs =>
    simp only [RepD] at h
    obtain ⟨a, vs, e, q, r⟩ := h
    exact ⟨a, vs, e, SqL.le q s, r⟩
  | dict ks xs =>
    simp only [RepD] at h
    obtain ⟨a, vs, e, q, l, r⟩ := h
    exact ⟨a, vs, e, Rd.le q s, l, r⟩
  | fn n => simp only [RepD] at h; exact h
  | rng lo hi =>
    simp only [RepD] at h
    obtain ⟨a, e, q⟩ := h
    exact ⟨a, e, s.keep q IsDO.rng⟩
  | dt ks xs =>
    simp only [RepD] at h
    obtain ⟨a, vs, e, q, l, r⟩ := h
    exact ⟨a, vs, e, Rd.le q s, l, r⟩
  | obj c fs xs =>
    simp only [RepD] at h
    obtain ⟨a, dx, vs, e, q, l, r⟩ := h
    exact ⟨a, dx, vs, e, s.keep q IsDO.ins, l, r⟩
  | non => simp only [RepD] at h; exact h
  | bl b => simp only [RepD] at h; exact h
  | int i => simp only [RepD] at h; exact h
  | str x => simp only [RepD] at h; exact h
theorem RepT.mono {d : D} {v : V} (h : RepT G H Hs d v) (s : Sub Hs Hs') : RepT G H Hs' d v := by
  cases d with
  | tup xs =>
    obtain ⟨a, vs, e, q, r⟩ := h
    exact ⟨a, vs, e, q, RepDs.le r s.le⟩
  | lst xs =>
    obtain ⟨a, vs, e, q, r⟩ := h
    exact ⟨a, vs, e, q, RepDs.le r s.le⟩
  | dict ks xs =>
    obtain ⟨a, vs, e, q, l, r⟩ := h
    exact ⟨a, vs, e, q, l, RepDs.le r s.le⟩
  | fn n => exact h
  | rng lo hi => exact h
  | dt ks xs =>
    obtain ⟨a, vs, e, q, l, r⟩ := h
    exact ⟨a, vs, e, q, l, RepDs.le r s.le⟩
  | obj c fs xs =>
    obtain ⟨a, dx, vs, e, q, l, r⟩ := h
    exact ⟨a, dx, vs, e, q, l, RepDs.le r s.le⟩
  | non => exact h
  | bl b => exact h
  | int i => exact h
  | str x => exact h
/-- all of it in H -/
theorem RepT.full {d : D} {v : V} (h : RepT G H Hs d v) (s : Le Hs H) : RepD G H d v := by
  cases d with
  | tup xs =>
    obtain ⟨a, vs, e, q, r⟩ := h
    simp only [RepD]
    exact ⟨a, vs, e, q, RepDs.le r s⟩
  | lst xs =>
    obtain ⟨a, vs, e, q, r⟩ := h
    simp only [RepD]
    exact ⟨a, vs, e, q, RepDs.le r s⟩
  | dict ks xs =>
    obtain ⟨a, vs, e, q, l, r⟩ := h
    simp only [RepD]
    exact ⟨a, vs, e, q, l, RepDs.le r s⟩
  | fn n => simp only [RepD]; exact h
  | rng lo hi => simp only [RepD]; exact h
  | dt ks xs =>
    obtain ⟨a, vs, e, q, l, r⟩ := h
    simp only [RepD]
    exact ⟨a, vs, e, q, l, RepDs.le r s⟩
  | obj c fs xs =>
    obtain ⟨a, dx, vs, e, q, l, r⟩ := h
    simp only [RepD]
    exact ⟨a, dx, vs, e, q, l, RepDs.le r s⟩
  | non => simp only [RepD]; exact h
  | bl b => simp only [RepD]; exact h
  | int i => simp only [RepD]; exact h
  | str x => simp only [RepD]; exact h
end
def shOf : Val → Option D
  | .sh d => some d
  | _ => none
def shAll : List Val → Option (List D)
  | [] => some []
  | x :: xs => (shOf x).bind fun d => (shAll xs).bind fun ds => some (d :: ds)
def Val.top : Val → Option D
  | .sh d => some d
  | .ol xs => (shAll xs).map .lst
  | .ot xs => (shAll xs).map .tup
  | .od ks xs => (shAll xs).map (.dict ks)
  | .odt ks xs => (shAll xs).map (.dt ks)
  | .oi c fs xs => (shAll xs).map (.obj c fs)
@[simp] theorem shAll_map (ds : List D) : shAll (ds.map .sh) = some ds := by
  induction ds with
  | nil => rfl
  | cons d ds ih => simp [shAll, shOf, ih]
theorem shAll_inv : ∀ {xs : List Val} {ds : List D}, shAll xs = some ds → xs = ds.map .sh
  | [], ds, h => by
    simp only [shAll, Option.some.injEq] at h
    subst h
    rfl
  | x :: xs, ds, h => by
    cases x with
    | sh d =>
      simp only [shAll, shOf, Option.bind_some] at h
      cases e : shAll xs with
      | none =>
        rw [e] at h
        cases h
      | some es =>
        rw [e] at h
        simp only [Option.bind_some, Option.some.injEq] at h
        subst h
        rw [shAll_inv e]
        rfl
    | ol _ => simp [shAll, shOf] at h
    | ot _ => simp [shAll, shOf] at h
    | od _ _ => simp [shAll, shOf] at h
    | odt _ _ => simp [shAll, shOf] at h
    | oi _ _ _ => simp [shAll, shOf] at h
section
variable {G : Gc} {H Hs : Hp}
theorem RepVs.shs_inv : ∀ {ds : List D} {vs : List V} {as : List Addr}, RepVs G H Hs (ds.map .sh) vs as → RepDs G Hs ds vs
  | [], vs, as, h => by
    rw [List.map_nil, RepVs.nil_iff] at h
    rw [RepDs.nil_iff]
    exact h.1
  | d :: ds, vs, as, h => by
    rw [List.map_cons] at h
    obtain ⟨v, ws, a1, a2, rfl, rfl, p, q⟩ := h.uncons
    exact RepDs.cons (RepV.sh_iff.mp p).2 (RepVs.shs_inv q)
theorem RepV.top {x : Val} {d : D} {v : V} {as : List Addr} (h : RepV G H Hs x v as) (e : x.top = some d) (s : Le Hs H) : RepT G H Hs d v := by
  cases x with
  | sh d' =>
    simp only [Val.top, Option.some.injEq] at e
    subst e
    exact (RepV.sh_iff.mp h).2.top s
  | ol xs =>
    simp only [Val.top, Option.map_eq_some_iff] at e
    obtain ⟨ds, e1, rfl⟩ := e
    rw [shAll_inv e1] at h
    simp only [RepV] at h
    obtain ⟨a, vs, bs, rfl, rfl, q, r⟩ := h
    exact ⟨a, vs, rfl, SqL.of q, r.shs_inv⟩
  | ot xs =>
    simp only [Val.top, Option.map_eq_some_iff] at e
    obtain ⟨ds, e1, rfl⟩ := e
    rw [shAll_inv e1] at h
    simp only [RepV] at h
    obtain ⟨a, vs, rfl, q, r⟩ := h
    exact ⟨a, vs, rfl, s.keep q IsDO.tup, r.shs_inv⟩
  | od ks xs =>
    simp only [Val.top, Option.map_eq_some_iff] at e
    obtain ⟨ds, e1, rfl⟩ := e
    rw [shAll_inv e1] at h
    simp only [RepV] at h
    obtain ⟨a, vs, bs, rfl, rfl, q, l, r⟩ := h
    exact ⟨a, vs, rfl, .inl q, l, r.shs_inv⟩
  | odt ks xs =>
    simp only [Val.top, Option.map_eq_some_iff] at e
    obtain ⟨ds, e1, rfl⟩ := e
    rw [shAll_inv e1] at h
    simp only [RepV] at h
    obtain ⟨a, vs, bs, rfl, rfl, q, l, r⟩ := h
    exact ⟨a, vs, rfl, .inl q, l, r.shs_inv⟩
  | oi c fs xs =>
    simp only [Val.top, Option.map_eq_some_iff] at e
    obtain ⟨ds, e1, rfl⟩ := e
    rw [shAll_inv e1] at h
    simp only [RepV] at h
    obtain ⟨a, dx, vs, bs, rfl, rfl, q, _, l, r⟩ := h
    exact ⟨a, dx, vs, rfl, q, l, r.shs_inv⟩
end

def prep1 (o : Opv) (η : Env) : Option (D × Env) := match o with
  | .pend x => some (x.d, η)
  | .slot i => match η[i]? with
    | some (some x) => (match x.top with
      | some d => some (d, η)
      | none => some (x.d, η.set i (some (.sh x.d))))
    | _ => none
def prepAll : List Opv → Env → Option (List D × Env)
  | [], η => some ([], η)
  | o :: os, η => match prep1 o η with
    | some (d, η1) => (match prepAll os η1 with
      | some (ds, η2) => some (d :: ds, η2)
      | none => none)
    | none => none
def Links (σ : L2.St) : List Opv → List V → Prop
  | [], vs => vs = []
  | o :: os, vs => ∃ v ws, vs = v :: ws ∧ o.lnk σ v ∧ Links σ os ws
section
variable {G : Gc}
theorem RepTs.mono {H Hs Hs' : Hp} : ∀ {ds : List D} {vs : List V}, RepTs G H Hs ds vs → Sub Hs Hs' → RepTs G H Hs' ds vs
  | [], _, h, _ => h
  | d :: ds, vs, h, s => by
    obtain ⟨v, ws, e, p, q⟩ := h
    exact ⟨v, ws, e, p.mono s, RepTs.mono q s⟩
theorem prep_ok : ∀ {os : List Opv} {vs : List V} {η : Env} {σ : L2.St} {as : List Addr} {H Hs : Hp} {ds : List D} {η' : Env}, Rep G (os.map Opv.p ++ η) (vs.map some ++ σ) as H Hs → Links σ os vs → prepAll os η = some (ds, η') →
    ∃ as' Hs', Rep G η' σ as' H Hs' ∧ Ext as H Hs as' H Hs' ∧ RepTs G H Hs' ds vs
  | [], vs, η, σ, as, H, Hs, ds, η', h, l, e => by
    obtain rfl : vs = [] := l
    simp only [prepAll, Option.some.injEq, Prod.mk.injEq] at e
    obtain ⟨rfl, rfl⟩ := e
    exact ⟨as, Hs, h, Ext.refl, rfl⟩
  | o :: os, vs, η, σ, as, H, Hs, ds, η', h, l, e => by
    obtain ⟨v, ws, rfl, hl, hls⟩ := l
    simp only [prepAll] at e
    cases e1 : prep1 o η with
    | none =>
      rw [e1] at e
      cases e
    | some p =>
      obtain ⟨d, η1⟩ := p
      rw [e1] at e
      simp only at e
      cases e2 : prepAll os η1 with
      | none =>
        rw [e2] at e
        cases e
      | some p2 =>
        obtain ⟨ds2, η2⟩ := p2
        rw [e2] at e
        simp only [Option.some.injEq, Prod.mk.injEq] at e
        obtain ⟨rfl, rfl⟩ := e
        -- the first operand
        have first : ∃ as1 Hs1, Rep G (os.map Opv.p ++ η1) (ws.map some ++ σ) as1 H Hs1 ∧ Ext as H Hs as1 H Hs1 ∧ RepT G H Hs1 d v := by
          cases o with
          | pend x =>
            simp only [prep1, Option.some.injEq, Prod.mk.injEq] at e1
            obtain ⟨rfl, rfl⟩ := e1
            obtain ⟨as1, Hs1, r1, x1, d1⟩ := Rep.freeze0 (x := x) (v := v) (η := os.map Opv.p ++ η) (σ := ws.map some ++ σ) h
            obtain ⟨as2, r2, m2⟩ := r1.pop
            exact ⟨as2, Hs1, r2, x1.less m2, d1.top r1.le⟩
          | slot i =>
            obtain ⟨as0, r0, m0⟩ := Rep.pop (x := none) (v := some v) (η := os.map Opv.p ++ η) (σ := ws.map some ++ σ) h
            have hi : σ[i]? = some (some v) := hl
            have hlen : (ws.map some).length = (os.map Opv.p).length := by
              have : ∀ (os : List Opv) (ws : List V), Links σ os ws → ws.length = os.length := by
                intro os
                induction os with
                | nil => intro ws q; obtain rfl : ws = [] := q; rfl
                | cons o os ih => intro ws q; obtain ⟨v, us, rfl, _, q⟩ := q; simp [ih us q]
              simp [this os ws hls]
            simp only [prep1] at e1
            cases ei : η[i]? with
            | none =>
              rw [ei] at e1
              cases e1
            | some y =>
              cases y with
              | none =>
                rw [ei] at e1
                cases e1
              | some x =>
                rw [ei] at e1
                simp only at e1
                have ei' : (os.map Opv.p ++ η)[(os.map Opv.p).length + i]? = some (some x) := by
                  rw [List.getElem?_append_right (Nat.le_add_right _ _), Nat.add_sub_cancel_left]
                  exact ei
                have hi' : (ws.map some ++ σ)[(os.map Opv.p).length + i]? = some (some v) := by
                  rw [← hlen, List.getElem?_append_right (Nat.le_add_right _ _), Nat.add_sub_cancel_left]
                  exact hi
                cases et : x.top with
                | some d' =>
                  rw [et] at e1
                  simp only [Option.some.injEq, Prod.mk.injEq] at e1
                  obtain ⟨rfl, rfl⟩ := e1
                  obtain ⟨u, b1, b2, b3, eu, _, ru, _⟩ := r0.env.at ei'
                  rw [hi'] at eu
                  have ev : v = u := by simpa using eu
                  subst ev
                  exact ⟨as0, Hs, r0, Ext.refl.less m0, ru.top et r0.le⟩
                | none =>
                  rw [et] at e1
                  simp only [Option.some.injEq, Prod.mk.injEq] at e1
                  obtain ⟨rfl, rfl⟩ := e1
                  obtain ⟨u, as1, Hs1, eu, r1, x1, d1⟩ := r0.freeze ei'
                  rw [hi'] at eu
                  have ev : v = u := by simpa using eu
                  subst ev
                  have es : (os.map Opv.p ++ η).set ((os.map Opv.p).length + i) (some (Val.sh x.d)) = os.map Opv.p ++ η.set i (some (.sh x.d)) := by
                    rw [List.set_append_right _ _ (Nat.le_add_right _ _), Nat.add_sub_cancel_left]
                  rw [es] at r1
                  exact ⟨as1, Hs1, r1, (Ext.refl.less m0).trans x1, d1.top r1.le⟩
        obtain ⟨as1, Hs1, r1, x1, t1⟩ := first
        obtain ⟨as2, Hs2, r2, x2, t2⟩ := prep_ok r1 hls e2
        exact ⟨as2, Hs2, r2, x1.trans x2, v, ws, rfl, t1.mono x2.grow, t2⟩
end

/-- what is wanted of a new value -/
def FreshQ (G : Gc) (H Hs : Hp) (Q : VK) (x : Val) : Prop := Le Hs H ∧ ∀ v b H', Sub H H' → RepV G H' (addT H H' Hs) x v b → b.Nodup → (∀ a ∈ b, H a = none) → Q v H'
theorem FreshQ.sh {G : Gc} {H Hs : Hp} {Q : VK} {d : D} {v : V} (q : FreshQ G H Hs Q (.sh d)) (h : RepD G Hs d v) : Q v H := q.2 v [] H Sub.refl (RepV.sh_iff.mpr ⟨rfl, by rw [addT_self]; exact h⟩) List.nodup_nil (fun a ha => nomatch ha)
def PrimOk (G : Gc) (r : List V → Hp → VK → Prop) (g : List D → Option Val) : Prop :=
  ∀ ds x vs H Hs Q, g ds = some x → Le Hs H → RepTs G H Hs ds vs → FreshQ G H Hs Q x → r vs H Q
/-- the operands' values, then the operation -/
def appR (g : List D → Option Val) (os : List Opv) (η : Env) : RO Opv := match prepAll os η with
  | some (ds, η1) => (match g ds with
    | some x => okR (.pend x) η1
    | none => none)
  | none => none
theorem app_ok {G : Gc} {W : WX} {r : List V → Hp → VK → Prop} {g : List D → Option Val} (pr : PrimOk G r g) {os : List Opv} {vs : List V} {η : Env} {σ : L2.St} {as as0 : List Addr} {H Hs H0 Hs0 : Hp} {res : Res Opv} {Q : VK}
    (h : Rep G (os.map Opv.p ++ η) (vs.map some ++ σ) as H Hs) (l : Links σ os vs) (x0 : Ext as0 H0 Hs0 as H Hs) (e : appR g os η = some res) (hp : PostO G W σ as0 H0 Hs0 Q res) : r vs H Q := by
  unfold appR at e
  cases e1 : prepAll os η with
  | none =>
    rw [e1] at e
    cases e
  | some p =>
    obtain ⟨ds, η1⟩ := p
    rw [e1] at e
    simp only at e
    cases e2 : g ds with
    | none =>
      rw [e2] at e
      cases e
    | some x =>
      rw [e2] at e
      obtain rfl : res = .ok (.pend x) η1 := (Option.some.inj e).symm
      obtain ⟨as1, Hs1, r1, x1, t1⟩ := prep_ok h l e1
      refine pr ds x vs H Hs1 Q e2 r1.le t1 ⟨r1.le, fun v b H' k rv nd new => ?_⟩
      obtain ⟨r2, x2⟩ := r1.push' k rv nd new
      exact hp v _ H' _ r2 trivial (x0.trans (x1.trans x2))

section
variable {M : Md} {X : Cx} {W : WX} {a b e : Expr} {fa fb : FO} {pos : Pos}
def f1 (fa : FO) (g : List D → Option Val) : FO := fun η => bindR (fa η) fun o η1 => appR g [o] η1
def f2 (fa fb : FO) (g : List D → Option Val) : FO := fun η => bindR (fa η) fun o η1 => bindR (fb η1) fun p η2 => appR g [o, p] η2
theorem ok1 {r : V → Hp → VK → Prop} {g : List D → Option Val} (ha : OkO M X W a fa) (pr : PrimOk M.G (fun vs H Q => ∀ x, vs = [x] → r x H Q) g) (he : ∀ ta, PE X a ta → PE X e (fun σ H Q => ta σ H fun x H1 => r x H1 Q)) : OkO M X W e (f1 fa g) := by
  obtain ⟨t, ht, hh⟩ := ha
  refine ⟨_, he t ht, fun η σ as H Hs res Q hR hf hp => ?_⟩
  rcases bindR_inv hf with ⟨o, η1, e1, e2⟩ | ⟨c, p, η1, e1, rfl⟩
  · refine hh η σ as H Hs _ _ hR e1 fun v as' H' Hs' r1 l1 x1 => ?_
    exact app_ok pr (os := [o]) (vs := [v]) r1 ⟨v, [], rfl, l1, rfl⟩ x1 e2 hp v rfl
  · exact hh η σ as H Hs _ _ hR e1 hp
theorem ok2 {r : V → V → Hp → VK → Prop} {g : List D → Option Val} (ha : OkO M X W a fa) (hb : OkO M X W b fb) (pr : PrimOk M.G (fun vs H Q => ∀ x y, vs = [x, y] → r x y H Q) g)
    (he : ∀ ta tb, PE X a ta → PE X b tb → PE X e (fun σ H Q => ta σ H fun x H1 => tb σ H1 fun y H2 => r x y H2 Q)) : OkO M X W e (f2 fa fb g) := by
  obtain ⟨ta, hta, hha⟩ := ha
  obtain ⟨tb, htb, hhb⟩ := hb.framed
  refine ⟨_, he ta tb hta htb, fun η σ as H Hs res Q hR hf hp => ?_⟩
  rcases bindR_inv hf with ⟨o, η1, e1, e2⟩ | ⟨c, p, η1, e1, rfl⟩
  · refine hha η σ as H Hs _ _ hR e1 fun v as' H' Hs' r1 l1 x1 => ?_
    rcases bindR_inv e2 with ⟨o2, η2, e3, e4⟩ | ⟨c, p, η2, e3, rfl⟩
    · refine hhb [o.p] [some v] η1 σ as' H' Hs' _ _ r1 rfl e3 fun v2 as2 H2 Hs2 r2 l2 x2 => ?_
      exact app_ok pr (os := [o, o2]) (vs := [v, v2]) r2 ⟨v, [v2], rfl, l1, v2, [], rfl, l2, rfl⟩ (x1.trans x2) e4 hp v v2 rfl
    · refine hhb [o.p] [some v] η1 σ as' H' Hs' _ _ r1 rfl e3 fun v2 dx as2 H2 Hs2 r2 hX x2 => ?_
      exact hp v2 dx as2 H2 Hs2 r2 hX (x1.trans x2)
  · exact hha η σ as H Hs _ _ hR e1 hp

abbrev FL := Env → RO (List Opv)
def PostL (G : Gc) (W : WX) (σ : L2.St) (as : List Addr) (H Hs : Hp) (Q : List V → Hp → Prop) : Res (List Opv) → Prop
  | .ok os η' => ∀ vs as' H' Hs', Rep G (os.map Opv.p ++ η') (vs.map some ++ σ) as' H' Hs' → Links σ os vs → Ext as H Hs as' H' Hs' → Q vs H'
  | .exc c p η' => PostX G W σ as H Hs c p η'
def OkL (M : Md) (X : Cx) (W : WX) (es : List Expr) (f : FL) : Prop :=
  ∃ t, PA X es t ∧ ∀ η σ as H Hs r Q, Rep M.G η σ as H Hs → f η = some r → PostL M.G W σ as H Hs Q r → t σ H Q
theorem OkL.framed {es : List Expr} {f : FL} (h : OkL M X W es f) : ∃ t, PA X es t ∧ ∀ π τ η σ as H Hs r Q, Rep M.G (π ++ η) (τ ++ σ) as H Hs → τ.length = π.length → f η = some r →
    (match r with
      | .ok os η' => ∀ vs as' H' Hs', Rep M.G (π ++ (os.map Opv.p ++ η')) (τ ++ (vs.map some ++ σ)) as' H' Hs' → Links σ os vs → Ext as H Hs as' H' Hs' → Q vs H'
      | .exc c p η' => PostX M.G W σ as H Hs c p η') → t σ H Q := by
  obtain ⟨t, ht, hh⟩ := h
  refine ⟨t, ht, fun π τ η σ as H Hs r Q hR hl hf hp => ?_⟩
  obtain ⟨a1, a2, rfl, p, q⟩ := hR.sub hl
  have off : ∀ a ∈ a1, Hs a = none := fun a ha => hR.off a (by simp [ha])
  refine hh η σ a2 H Hs r Q q hf ?_
  cases r with
  | ok o η' =>
    intro v as' H' Hs' hR' hk hx
    obtain ⟨r1, r2⟩ := Rep.frame p hR.nd off hR' hx
    exact hp v _ H' Hs' r1 hk r2
  | exc c pp η' =>
    intro v dx as' H' Hs' hR' hX hx
    exact hp v dx as' H' Hs' hR' hX (hx.more a1)
def fNil : FL := fun η => okR [] η
def fCons (f : FO) (g : FL) : FL := fun η => bindR (f η) fun o η1 => bindR (g η1) fun os η2 => okR (o :: os) η2
theorem okL_nil : OkL M X W [] fNil := by
  refine ⟨_, pa_nil, fun η σ as H Hs r Q hR hf hp => ?_⟩
  obtain rfl : r = .ok [] η := (Option.some.inj hf).symm
  exact hp [] as H Hs hR rfl Ext.refl
theorem okL_cons {es : List Expr} {g : FL} (ha : OkO M X W a fa) (hs : OkL M X W es g) (hst : starEach (a :: es) X.env = (false, eval a X.env) :: starEach es X.env) : OkL M X W (a :: es) (fCons fa g) := by
  obtain ⟨ta, hta, hha⟩ := ha
  obtain ⟨ts, hts, hhs⟩ := hs.framed
  refine ⟨_, pa_cons hta hts hst, fun η σ as H Hs res Q hR hf hp => ?_⟩
  rcases bindR_inv hf with ⟨o, η1, e1, e2⟩ | ⟨c, p, η1, e1, rfl⟩
  · refine hha η σ as H Hs _ _ hR e1 fun v as' H' Hs' r1 l1 x1 => ?_
    rcases bindR_inv e2 with ⟨os, η2, e3, e4⟩ | ⟨c, p, η2, e3, rfl⟩
    · obtain rfl : res = .ok (o :: os) η2 := (Option.some.inj e4).symm
      refine hhs [o.p] [some v] η1 σ as' H' Hs' _ _ r1 rfl e3 fun vs as2 H2 Hs2 r2 l2 x2 => ?_
      exact hp (v :: vs) as2 H2 Hs2 r2 ⟨v, vs, rfl, l1, l2⟩ (x1.trans x2)
    · refine hhs [o.p] [some v] η1 σ as' H' Hs' _ _ r1 rfl e3 fun v2 dx as2 H2 Hs2 r2 hX x2 => ?_
      exact hp v2 dx as2 H2 Hs2 r2 hX (x1.trans x2)
  · exact hha η σ as H Hs _ _ hR e1 hp
def fn (g : FL) (p : List D → Option Val) : FO := fun η => bindR (g η) fun os η1 => appR p os η1
theorem okN {es : List Expr} {g : FL} {r : List V → Hp → VK → Prop} {p : List D → Option Val} (ha : OkL M X W es g) (pr : PrimOk M.G r p) (he : ∀ t, PA X es t → PE X e (fun σ H Q => t σ H fun vs H1 => r vs H1 Q)) : OkO M X W e (fn g p) := by
  obtain ⟨t, ht, hh⟩ := ha
  refine ⟨_, he t ht, fun η σ as H Hs res Q hR hf hp => ?_⟩
  rcases bindR_inv hf with ⟨os, η1, e1, e2⟩ | ⟨c, p, η1, e1, rfl⟩
  · refine hh η σ as H Hs _ _ hR e1 fun vs as' H' Hs' r1 l1 x1 => ?_
    exact app_ok pr r1 l1 x1 e2 hp
  · exact hh η σ as H Hs _ _ hR e1 hp

def fLit (d : D) : FO := fun η => okR (.pend (.sh d)) η
theorem ok_lit {d : D} {v : V} (h : PE X e (tC v)) (r : ∀ Hs, RepD M.G Hs d v) : OkO M X W e (fLit d) := by
  refine ⟨_, h, fun η σ as H Hs res Q hR hf hp => ?_⟩
  obtain rfl : res = .ok (.pend (.sh d)) η := (Option.some.inj hf).symm
  exact hp v as H Hs (hR.push_sh (r Hs)) trivial Ext.refl
def fVar (i : Nat) : FO := fun η => match η[i]? with
  | some (some _) => okR (.slot i) η
  | _ => none
theorem RepO.none_top {G : Gc} {η : Env} {σ : L2.St} {as : List Addr} {H Hs : Hp} {s : Option V} (h : Rep G η σ as H Hs) : Rep G (none :: η) (s :: σ) as H Hs := ⟨h.le, ⟨s, σ, rfl, h.env⟩, h.nd, h.off, h.tp⟩
theorem ok_var {i : Nat} (h : PE X e (tVar i)) : OkO M X W e (fVar i) := by
  refine ⟨_, h, fun η σ as H Hs res Q hR hf hp => ?_⟩
  unfold fVar at hf
  cases ei : η[i]? with
  | none =>
    rw [ei] at hf
    cases hf
  | some y =>
    cases y with
    | none =>
      rw [ei] at hf
      cases hf
    | some x =>
      rw [ei] at hf
      obtain rfl : res = .ok (.slot i) η := (Option.some.inj hf).symm
      obtain ⟨v, _, _, _, ev, _⟩ := hR.env.at ei
      exact ⟨v, ev, hp v as H Hs (RepO.none_top hR) ev Ext.refl⟩
end

def Opv.up (k : Nat) : Opv → Opv
  | .pend x => .pend x
  | .slot i => .slot (k + i)
theorem Opv.up_p (k : Nat) (o : Opv) : (o.up k).p = o.p := by cases o <;> rfl
def esc1 (o : Opv) (η : Env) : Option (Val × Env) := match o with
  | .pend x => some (x, η)
  | .slot i => match η[i]? with
    | some (some x) => some (.sh x.d, η.set i (some (.sh x.d)))
    | _ => none
def escAll : List Opv → Env → Option (List Val × Env)
  | [], η => some ([], η)
  | o :: os, η => match esc1 o η with
    | some (x, η1) => (match escAll os η1 with
      | some (xs, η2) => some (x :: xs, η2)
      | none => none)
    | none => none
theorem Links.length {σ : L2.St} : ∀ {os : List Opv} {ws : List V}, Links σ os ws → ws.length = os.length
  | [], ws, q => by obtain rfl : ws = [] := q; rfl
  | o :: os, ws, q => by
    obtain ⟨v, us, rfl, _, q⟩ := q
    simp [Links.length q]
section
variable {G : Gc}
/-- one operand, at any depth of what is pending -/
theorem esc1_ok {π : Env} {τ : L2.St} {o : Opv} {v : V} {η : Env} {σ : L2.St} {as : List Addr} {H Hs : Hp} {x : Val} {η' : Env} (h : Rep G (π ++ (o.p :: η)) (τ ++ (some v :: σ)) as H Hs) (hl : τ.length = π.length) (l : o.lnk σ v) (e : esc1 o η = some (x, η')) :
    ∃ as' Hs', Rep G (π ++ (some x :: η')) (τ ++ (some v :: σ)) as' H Hs' ∧ Ext as H Hs as' H Hs' := by
  cases o with
  | pend y =>
    simp only [esc1, Option.some.injEq, Prod.mk.injEq] at e
    obtain ⟨rfl, rfl⟩ := e
    exact ⟨as, Hs, h, Ext.refl⟩
  | slot i =>
    simp only [esc1] at e
    cases ei : η[i]? with
    | none =>
      rw [ei] at e
      cases e
    | some y =>
      cases y with
      | none =>
        rw [ei] at e
        cases e
      | some z =>
        rw [ei] at e
        simp only [Option.some.injEq, Prod.mk.injEq] at e
        obtain ⟨rfl, rfl⟩ := e
        have ei' : (π ++ (none :: η))[π.length + (i + 1)]? = some (some z) := by
          rw [List.getElem?_append_right (Nat.le_add_right _ _), Nat.add_sub_cancel_left]
          simpa using ei
        obtain ⟨u, as1, Hs1, eu, r1, x1, d1⟩ := Rep.freeze (η := π ++ (none :: η)) h ei'
        have hu : u = v := by
          rw [← hl, List.getElem?_append_right (Nat.le_add_right _ _), Nat.add_sub_cancel_left] at eu
          have e3 : σ[i]? = some (some u) := by simpa using eu
          have e4 : σ[i]? = some (some v) := l
          rw [e4] at e3
          simpa using e3.symm
        subst hu
        have es : (π ++ (none :: η)).set (π.length + (i + 1)) (some (Val.sh z.d)) = π ++ (none :: η.set i (some (.sh z.d))) := by
          rw [List.set_append_right _ _ (Nat.le_add_right _ _), Nat.add_sub_cancel_left]
          rfl
        rw [es] at r1
        -- the value of the slot is shared: it stands on top too
        obtain ⟨b1, b2, rfl, p1, q1⟩ := Rep.sub r1 hl
        have q2 : Rep G (some (.sh z.d) :: η.set i (some (.sh z.d))) (some u :: σ) b2 H Hs1 := by
          obtain ⟨b3, q3, m3⟩ := q1.pop
          obtain ⟨t, σ', e5, q4⟩ := q1.env
          obtain ⟨rfl, rfl⟩ := List.cons.inj e5
          exact ⟨q1.le, ⟨u, σ, [], b2, rfl, rfl, RepV.sh_iff.mpr ⟨rfl, d1⟩, q4⟩, q1.nd, q1.off, q1.tp⟩
        exact ⟨b1 ++ b2, Hs1, ⟨r1.le, p1.join q2.env, r1.nd, r1.off, r1.tp⟩, x1⟩
theorem escAll_ok : ∀ {os : List Opv} {π : Env} {τ : L2.St} {vs : List V} {η : Env} {σ : L2.St} {as : List Addr} {H Hs : Hp} {xs : List Val} {η' : Env}, Rep G (π ++ (os.map Opv.p ++ η)) (τ ++ (vs.map some ++ σ)) as H Hs → τ.length = π.length → Links σ os vs → escAll os η = some (xs, η') →
    ∃ as' Hs', Rep G (π ++ (xs.map some ++ η')) (τ ++ (vs.map some ++ σ)) as' H Hs' ∧ Ext as H Hs as' H Hs'
  | [], π, τ, vs, η, σ, as, H, Hs, xs, η', h, hl, l, e => by
    simp only [escAll, Option.some.injEq, Prod.mk.injEq] at e
    obtain ⟨rfl, rfl⟩ := e
    exact ⟨as, Hs, h, Ext.refl⟩
  | o :: os, π, τ, vs, η, σ, as, H, Hs, xs, η', h, hl, l, e => by
    obtain ⟨v, ws, rfl, l1, l2⟩ := l
    simp only [escAll] at e
    cases e1 : esc1 o η with
    | none =>
      rw [e1] at e
      cases e
    | some p =>
      obtain ⟨x, η1⟩ := p
      rw [e1] at e
      simp only at e
      cases e2 : escAll os η1 with
      | none =>
        rw [e2] at e
        cases e
      | some p2 =>
        obtain ⟨xs2, η2⟩ := p2
        rw [e2] at e
        simp only [Option.some.injEq, Prod.mk.injEq] at e
        obtain ⟨rfl, rfl⟩ := e
        -- move the rest's operands ahead
        have e1' : esc1 (o.up (os.map Opv.p).length) (os.map Opv.p ++ η) = some (x, os.map Opv.p ++ η1) := by
          cases o with
          | pend y =>
            simp only [esc1, Opv.up, Option.some.injEq, Prod.mk.injEq] at e1 ⊢
            exact ⟨e1.1, by rw [e1.2]⟩
          | slot i =>
            simp only [esc1, Opv.up] at e1 ⊢
            rw [List.getElem?_append_right (Nat.le_add_right _ _), Nat.add_sub_cancel_left]
            cases ei : η[i]? with
            | none =>
              rw [ei] at e1
              cases e1
            | some y =>
              cases y with
              | none =>
                rw [ei] at e1
                cases e1
              | some z =>
                rw [ei] at e1
                simp only [Option.some.injEq, Prod.mk.injEq] at e1 ⊢
                refine ⟨e1.1, ?_⟩
                rw [List.set_append_right _ _ (Nat.le_add_right _ _), Nat.add_sub_cancel_left, e1.2]
        have lw := l2.length
        obtain ⟨as1, Hs1, r1, x1⟩ := esc1_ok (π := π) (τ := τ) (o := o.up (os.map Opv.p).length) (v := v) (η := os.map Opv.p ++ η) (σ := ws.map some ++ σ) (by rw [Opv.up_p]; exact h) hl (by
          cases o with
          | pend y => trivial
          | slot i =>
            show (ws.map some ++ σ)[(os.map Opv.p).length + i]? = some (some v)
            rw [show (os.map Opv.p).length = (ws.map (some : V → Option V)).length by simp [lw], List.getElem?_append_right (Nat.le_add_right _ _), Nat.add_sub_cancel_left]
            exact l1) e1'
        have r1' : Rep G ((π ++ [some x]) ++ (os.map Opv.p ++ η1)) ((τ ++ [some v]) ++ (ws.map some ++ σ)) as1 H Hs1 := by simpa using r1
        obtain ⟨as2, Hs2, r2, x2⟩ := escAll_ok r1' (by simp [hl]) l2 e2
        exact ⟨as2, Hs2, by simpa using r2, x1.trans x2⟩
theorem RepO.vals : ∀ {xs : List Val} {vs : List V} {as : List Addr} {H Hs : Hp}, RepO G H Hs (xs.map some) (vs.map some) as → RepVs G H Hs xs vs as
  | [], vs, as, H, Hs, h => by
    obtain ⟨h1, h2⟩ := h
    exact RepVs.nil_iff.mpr ⟨by simpa using h1, h2⟩
  | x :: xs, [], as, H, Hs, h => by
    obtain ⟨v, σ', a1, a2, e, _⟩ := h
    cases e
  | x :: xs, w :: vs, as, H, Hs, h => by
    obtain ⟨v, σ', a1, a2, e, rfl, p, q⟩ := h
    obtain ⟨e1, rfl⟩ := List.cons.inj e
    obtain rfl : w = v := Option.some.inj e1
    exact RepVs.cons p (RepO.vals q)
theorem RepVs.slots : ∀ {xs : List Val} {vs : List V} {as : List Addr} {H Hs : Hp}, RepVs G H Hs xs vs as → RepO G H Hs (xs.map some) (vs.map some) as
  | [], vs, as, H, Hs, h => by
    obtain ⟨h1, h2⟩ := RepVs.nil_iff.mp h
    subst h1 h2
    exact ⟨rfl, rfl⟩
  | x :: xs, vs, as, H, Hs, h => by
    obtain ⟨v, ws, a1, a2, rfl, rfl, p, q⟩ := h.uncons
    exact ⟨v, ws.map some, a1, a2, rfl, rfl, p, RepVs.slots q⟩
end
section
variable {M : Md} {X : Cx} {W : WX} {pos : Pos} {es : List Expr} {g : FL}
/-- a display: the values as they are -/
def fDisp (k : List Val → Val) (g : FL) : FO := fun η => bindR (g η) fun os η1 => match escAll os η1 with
  | some (xs, η2) => if xs.length ≤ sizeLine then okR (.pend (k xs)) η2 else none
  | none => none
theorem escAll_lenC : ∀ (os : List Opv) (η : Env) (xs : List Val) (η' : Env), escAll os η = some (xs, η') → xs.length = os.length := by
  intro os
  induction os with
  | nil => intro η xs η' h; simp only [escAll, Option.some.injEq, Prod.mk.injEq] at h; rw [← h.1]; rfl
  | cons o os ih =>
    intro η xs η' h
    simp only [escAll] at h
    cases q1 : esc1 o η with
    | none => rw [q1] at h; cases h
    | some z =>
      obtain ⟨y, ηy⟩ := z
      rw [q1] at h
      simp only at h
      cases q2 : escAll os ηy with
      | none => rw [q2] at h; cases h
      | some z2 =>
        obtain ⟨ys, ηz⟩ := z2
        rw [q2] at h
        simp only [Option.some.injEq, Prod.mk.injEq] at h
        rw [← h.1]
        simp [ih _ _ _ q2]
theorem ok_disp {e : Expr} {k : List Val → Val} {o : List V → HO} {ow : Bool} (hk : ∀ G H Hs xs vs bs p, RepVs G H Hs xs vs bs → H p = some (o vs) → (ow = false → Hs p = some (o vs)) → RepV G H Hs (k xs) (.ref p) (cond ow (p :: bs) bs))
    (ht' : ow = false → o = .tup) (hn : ow = true → ∀ vs ws, o vs ≠ .tup ws)
    (ha : OkL M X W es g) (he : ∀ t, PA X es t → PE X e (fun σ H Q => t σ H fun xs H1 => xs.length ≤ sizeLine ∧ ∀ p, H1 p = none → Q (.ref p) (upd H1 p (o xs)))) : OkO M X W e (fDisp k g) := by
  obtain ⟨t, ht, hh⟩ := ha
  refine ⟨_, he t ht, fun η σ as H Hs res Q hR hf hp => ?_⟩
  rcases bindR_inv hf with ⟨os, η1, e1, e2⟩ | ⟨c, p, η1, e1, rfl⟩
  · refine hh η σ as H Hs _ _ hR e1 fun vs as' H' Hs' r1 l1 x1 => ?_
    cases e3 : escAll os η1 with
    | none =>
      rw [e3] at e2
      cases e2
    | some p =>
      obtain ⟨xs, η2⟩ := p
      rw [e3] at e2
      simp only at e2
      by_cases hz : xs.length ≤ sizeLine
      · rw [if_pos hz] at e2
        obtain rfl : res = .ok (.pend (k xs)) η2 := (Option.some.inj e2).symm
        obtain ⟨as2, Hs2, r2, x2⟩ := escAll_ok (π := []) (τ := []) r1 rfl l1 e3
        have r2 : Rep M.G (xs.map some ++ η2) (vs.map some ++ σ) as2 H' Hs2 := r2
        have ll : xs.length = vs.length := by rw [escAll_lenC _ _ _ _ e3, l1.length]
        refine ⟨by rw [← ll]; exact hz, fun p np => ?_⟩
        have k1 : Sub H' (upd H' p (o vs)) := fun c ob ec => by
          rw [upd_ne (ne_of_none ec np)]
          exact ec
        obtain ⟨r3, x3⟩ := r2.grown k1
        generalize hA : addT H' (upd H' p (o vs)) Hs2 = Hs3 at r3 x3
        obtain ⟨b1, b2, rfl, p1, q1⟩ := r3.sub (by simp [ll])
        have rv := RepO.vals p1
        have hpn : ∀ a ∈ b1 ++ b2, a ≠ p := fun a ha z => r2.env.there a ha (z ▸ np)
        cases ow with
        | true =>
          have rk := hk M.G (upd H' p (o vs)) Hs3 xs vs b1 p rv upd_same (fun z => nomatch z)
          refine hp (.ref p) (p :: b1 ++ b2) _ Hs3 ⟨r3.le, ⟨.ref p, σ, p :: b1, b2, rfl, rfl, rk, q1.env⟩, ?_, fun a ha => ?_, r3.tp⟩ trivial ((x1.trans x2).trans ⟨x3.keep, x3.grow, x3.new, fun a ha => ?_⟩)
          · exact List.nodup_cons.mpr ⟨fun z => hpn p z rfl, r3.nd⟩
          · rcases List.mem_cons.mp ha with rfl | ha
            · rw [← hA, addT_not (by rw [upd_same]; exact fun ws z => hn rfl vs ws (Option.some.inj z))]
              exact r2.le.none np
            · exact r3.off a ha
          · rcases List.mem_cons.mp ha with rfl | ha
            · exact .inr np
            · exact .inl ha
        | false =>
          have hs : Hs3 p = some (o vs) := by rw [← hA, ht' rfl]; exact addT_tup np upd_same
          have rk := hk M.G (upd H' p (o vs)) Hs3 xs vs b1 p rv upd_same (fun _ => hs)
          exact hp (.ref p) (b1 ++ b2) _ Hs3 ⟨r3.le, ⟨.ref p, σ, b1, b2, rfl, rfl, rk, q1.env⟩, r3.nd, r3.off, r3.tp⟩ trivial ((x1.trans x2).trans x3)
      · rw [if_neg hz] at e2
        cases e2
  · exact hh η σ as H Hs _ _ hR e1 hp
theorem ok_list (ha : OkL M X W es g) : OkO M X W (.List es pos) (fDisp .ol g) :=
  ok_disp (o := .lst) (ow := true) (fun G H Hs xs vs bs p r e _ => by simp only [RepV, cond]; exact ⟨p, vs, bs, rfl, rfl, e, r⟩) (fun z => nomatch z) (fun _ _ _ z => nomatch z) ha fun t ht => pe_lst ht
theorem ok_tup {x1} (ha : OkL M X W es g) : OkO M X W (.Tuple es x1 pos) (fDisp .ot g) :=
  ok_disp (o := .tup) (ow := false) (fun G H Hs xs vs bs p r _ e => by simp only [RepV, cond]; exact ⟨p, vs, rfl, e rfl, r⟩) (fun _ => rfl) (fun z => nomatch z) ha fun t ht => pe_tup ht
end
end Wp
end
section
set_option Elab.async false
set_option linter.all false
set_option maxRecDepth 100000
namespace Wp
open PySem PySem.Spec PyProof.Rows L2

section
variable {G : Gc} {H Hs : Hp}
/-- a value put into an empty place -/
theorem RepO.put : ∀ {η : Env} {σ : L2.St} {as : List Addr} {j : Nat} {x : Val} {v : V} {b : List Addr}, RepO G H Hs η σ as → η[j]? = some none → σ[j]? = some (some v) → RepV G H Hs x v b →
    ∃ a1 a3, as = a1 ++ a3 ∧ RepO G H Hs (η.set j (some x)) σ (a1 ++ (b ++ a3))
  | [], _, _, j, _, _, _, _, e, _, _ => by simp at e
  | none :: η, σ, as, 0, x, v, b, h, _, ev, r => by
    obtain ⟨t, σ', rfl, q⟩ := h
    have e : t = some v := by simpa using ev
    subst e
    exact ⟨[], as, rfl, v, σ', b, as, rfl, rfl, r, q⟩
  | some z :: η, σ, as, 0, x, v, b, h, e, _, _ => by simp at e
  | none :: η, σ, as, j + 1, x, v, b, h, e, ev, r => by
    obtain ⟨t, σ', rfl, q⟩ := h
    obtain ⟨a1, a3, rfl, q2⟩ := RepO.put (j := j) q (by simpa using e) (by simpa using ev) r
    exact ⟨a1, a3, rfl, t, σ', rfl, q2⟩
  | some z :: η, σ, as, j + 1, x, v, b, h, e, ev, r => by
    obtain ⟨w, σ', b1, b2, rfl, rfl, p, q⟩ := h
    obtain ⟨a1, a3, rfl, q2⟩ := RepO.put (j := j) q (by simpa using e) (by simpa using ev) r
    exact ⟨b1 ++ a1, a3, by simp, w, σ', b1, a1 ++ (b ++ a3), rfl, by simp, p, q2⟩
theorem set_same {σ : L2.St} {i : Nat} {s : Option V} (e : σ[i]? = some s) : σ.set i s = σ := by
  refine List.ext_getElem? fun j => ?_
  by_cases hj : j = i
  · subst hj
    rw [List.getElem?_set_self (List.getElem?_eq_some_iff.mp e).1, e]
  · rw [List.getElem?_set_ne (Ne.symm hj)]
/-- a value moves from one place to an empty one that holds the same -/
theorem Rep.move {η : Env} {σ : L2.St} {as : List Addr} {i j : Nat} {x : Val} {v : V} (h : Rep G η σ as H Hs) (ei : η[i]? = some (some x)) (ej : η[j]? = some none) (vi : σ[i]? = some (some v)) (vj : σ[j]? = some (some v)) :
    ∃ as', as'.Perm as ∧ Rep G ((η.set i none).set j (some x)) σ as' H Hs := by
  obtain ⟨u, a1, a2, a3, eu, rfl, r, k⟩ := h.env.at ei
  have hu : u = v := by
    rw [vi] at eu
    simpa using eu.symm
  subst hu
  have k1 := k H Hs none (some u) [] rfl (fun a _ o e => e) Le.refl
  rw [set_same vi] at k1
  have hij : i ≠ j := fun z => by
    rw [z, ej] at ei
    cases ei
  obtain ⟨b1, b3, e1, k2⟩ := k1.put (by rw [List.getElem?_set_ne hij]; exact ej) vj r
  have p1 : (b1 ++ (a2 ++ b3)).Perm (a1 ++ (a2 ++ a3)) := by
    have q1 : (b1 ++ (a2 ++ b3)).Perm (a2 ++ (b1 ++ b3)) := List.perm_append_comm_assoc _ _ _
    have q2 : (a1 ++ (a2 ++ a3)).Perm (a2 ++ (a1 ++ a3)) := List.perm_append_comm_assoc _ _ _
    have e2 : b1 ++ b3 = a1 ++ a3 := by simpa using e1.symm
    rw [e2] at q1
    exact q1.trans q2.symm
  exact ⟨_, p1, h.le, k2, p1.nodup_iff.mpr h.nd, fun a ha => h.off a (p1.mem_iff.mp ha), h.tp⟩
theorem Rep.swap {A B : Env} {τ σ : L2.St} {as : List Addr} (h : Rep G (A ++ B) (τ ++ σ) as H Hs) (hl : τ.length = A.length) : ∃ as', as'.Perm as ∧ Rep G (B ++ A) (σ ++ τ) as' H Hs := by
  obtain ⟨a1, a2, rfl, p, q⟩ := h.sub hl
  exact ⟨a2 ++ a1, List.perm_append_comm, h.le, q.env.join p, List.perm_append_comm.nodup_iff.mpr h.nd, fun a ha => h.off a (List.perm_append_comm.mem_iff.mp ha), h.tp⟩
theorem Ext.perm {as bs as' : List Addr} {H' Hs' : Hp} (x : Ext as H Hs as' H' Hs') (p : bs.Perm as) : Ext bs H Hs as' H' Hs' :=
  ⟨fun c o e hc => x.keep c o e fun z => hc (p.mem_iff.mpr z), x.grow, fun c z => (x.new c z).imp id (Or.imp id p.mem_iff.mpr), fun a ha => (x.anew a ha).imp p.mem_iff.mpr id⟩
theorem Ext.permR {as as' bs : List Addr} {H' Hs' : Hp} (x : Ext as H Hs as' H' Hs') (p : bs.Perm as') : Ext as H Hs bs H' Hs' := x.less fun a ha => p.mem_iff.mp ha
theorem Ext.of_perm {as bs : List Addr} (p : bs.Perm as) : Ext as H Hs bs H Hs := Ext.refl.permR p
end

def arg1 (o : Opv) (η : Env) : Option (Val × Env) := match o with
  | .pend x => some (x, η)
  | .slot i => match η[i]? with
    | some (some (.sh d)) => some (.sh d, η)
    | some (some x) => some (x, η.set i none)
    | _ => none
/-- at a place that the def keeps: handed over and back; else shared -/
def pass1 (b : Bool) (o : Opv) (η : Env) : Option (Val × Env) := if b then arg1 o η else match esc1 o η with
  | some (x, η1) => some (.sh x.d, η1)
  | none => none
def argAll : List Bool → List Opv → Env → Option (List Val × Env)
  | _, [], η => some ([], η)
  | ms, o :: os, η => match pass1 (ms.headD true) o η with
    | some (x, η1) => (match argAll ms.tail os η1 with
      | some (xs, η2) => some (x :: xs, η2)
      | none => none)
    | none => none
/-- behind the call: what was handed over comes back -/
def back1 (o : Opv) (y : Option Val) (η : Env) : Env := match o with
  | .pend _ => η
  | .slot i => match η[i]? with
    | some none => η.set i y
    | _ => η
def backAll : List Opv → Env → Env → Env
  | o :: os, y :: θ, η => backAll os θ (back1 o y η)
  | _, _, η => η
section
variable {G : Gc} {H Hs : Hp}
theorem arg1_ok {π : Env} {τ : L2.St} {o : Opv} {v : V} {η : Env} {σ : L2.St} {as : List Addr} {x : Val} {η' : Env} (h : Rep G (π ++ (o.p :: η)) (τ ++ (some v :: σ)) as H Hs) (hl : τ.length = π.length) (l : o.lnk σ v) (e : arg1 o η = some (x, η')) :
    ∃ as', as'.Perm as ∧ Rep G (π ++ (some x :: η')) (τ ++ (some v :: σ)) as' H Hs := by
  cases o with
  | pend y =>
    simp only [arg1, Option.some.injEq, Prod.mk.injEq] at e
    obtain ⟨rfl, rfl⟩ := e
    exact ⟨as, .refl _, h⟩
  | slot i =>
    simp only [arg1] at e
    cases ei : η[i]? with
    | none =>
      rw [ei] at e
      cases e
    | some y =>
      cases y with
      | none =>
        rw [ei] at e
        cases e
      | some z =>
        have ei' : (π ++ (none :: η))[π.length + (i + 1)]? = some (some z) := by
          rw [List.getElem?_append_right (Nat.le_add_right _ _), Nat.add_sub_cancel_left]
          simpa using ei
        have ej' : (π ++ (none :: η))[π.length]? = some none := by simp
        have vi : (τ ++ (some v :: σ))[π.length + (i + 1)]? = some (some v) := by
          rw [← hl, List.getElem?_append_right (Nat.le_add_right _ _), Nat.add_sub_cancel_left]
          have l' : σ[i]? = some (some v) := l
          simpa using l'
        have vj : (τ ++ (some v :: σ))[π.length]? = some (some v) := by
          rw [← hl]
          simp
        have es : ∀ y : Option Val, ((π ++ (none :: η)).set (π.length + (i + 1)) none).set π.length y = π ++ (y :: η.set i none) := fun y => by
          rw [List.set_append_right _ _ (Nat.le_add_right _ _), Nat.add_sub_cancel_left]
          rw [List.set_append_right _ _ (Nat.le_refl _), Nat.sub_self]
          rfl
        have own : η' = η.set i none → x = z → ∃ as', as'.Perm as ∧ Rep G (π ++ (some x :: η')) (τ ++ (some v :: σ)) as' H Hs := fun e1 e2 => by
          subst e1 e2
          obtain ⟨as', p, q⟩ := Rep.move (η := π ++ (none :: η)) h ei' ej' vi vj
          rw [es] at q
          exact ⟨as', p, q⟩
        cases z with
        | sh d =>
          rw [ei] at e
          simp only [Option.some.injEq, Prod.mk.injEq] at e
          obtain ⟨rfl, rfl⟩ := e
          obtain ⟨u, a1, a2, a3, eu, rfl, r, k⟩ := RepO.at (η := π ++ (none :: η)) h.env ei'
          rw [vi] at eu
          have hu : v = u := by simpa using eu
          subst hu
          obtain ⟨rfl, rd⟩ := RepV.sh_iff.mp r
          obtain ⟨b1, b3, e1, q⟩ := RepO.put (η := π ++ (none :: η)) h.env ej' vj (RepV.sh_iff.mpr ⟨rfl, rd⟩)
          rw [List.set_append_right _ _ (Nat.le_refl _), Nat.sub_self] at q
          simp only [List.nil_append] at e1 q
          rw [← e1] at q
          exact ⟨_, .refl _, h.le, q, h.nd, h.off, h.tp⟩
        | ol xs =>
          rw [ei] at e
          simp only [Option.some.injEq, Prod.mk.injEq] at e
          exact own e.2.symm e.1.symm
        | ot xs =>
          rw [ei] at e
          simp only [Option.some.injEq, Prod.mk.injEq] at e
          exact own e.2.symm e.1.symm
        | od ks xs =>
          rw [ei] at e
          simp only [Option.some.injEq, Prod.mk.injEq] at e
          exact own e.2.symm e.1.symm
        | odt ks xs =>
          rw [ei] at e
          simp only [Option.some.injEq, Prod.mk.injEq] at e
          exact own e.2.symm e.1.symm
        | oi c fs xs =>
          rw [ei] at e
          simp only [Option.some.injEq, Prod.mk.injEq] at e
          exact own e.2.symm e.1.symm
theorem arg1_up {o : Opv} {A η : Env} {x : Val} {η' : Env} (e : arg1 o η = some (x, η')) : arg1 (o.up A.length) (A ++ η) = some (x, A ++ η') := by
  cases o with
  | pend y =>
    simp only [arg1, Opv.up, Option.some.injEq, Prod.mk.injEq] at e ⊢
    exact ⟨e.1, by rw [e.2]⟩
  | slot i =>
    simp only [arg1, Opv.up] at e ⊢
    rw [List.getElem?_append_right (Nat.le_add_right _ _), Nat.add_sub_cancel_left]
    cases ei : η[i]? with
    | none =>
      rw [ei] at e
      cases e
    | some y =>
      cases y with
      | none =>
        rw [ei] at e
        cases e
      | some z =>
        rw [ei] at e
        cases z <;> simp only [Option.some.injEq, Prod.mk.injEq] at e ⊢ <;> refine ⟨e.1, ?_⟩ <;> first | (rw [← e.2]; done) | (rw [List.set_append_right _ _ (Nat.le_add_right _ _), Nat.add_sub_cancel_left, e.2])
theorem esc1_up {o : Opv} {A η : Env} {x : Val} {η' : Env} (e : esc1 o η = some (x, η')) : esc1 (o.up A.length) (A ++ η) = some (x, A ++ η') := by
  cases o with
  | pend y =>
    simp only [esc1, Opv.up, Option.some.injEq, Prod.mk.injEq] at e ⊢
    exact ⟨e.1, by rw [e.2]⟩
  | slot i =>
    simp only [esc1, Opv.up] at e ⊢
    rw [List.getElem?_append_right (Nat.le_add_right _ _), Nat.add_sub_cancel_left]
    cases ei : η[i]? with
    | none =>
      rw [ei] at e
      cases e
    | some y =>
      cases y with
      | none =>
        rw [ei] at e
        cases e
      | some z =>
        rw [ei] at e
        simp only [Option.some.injEq, Prod.mk.injEq] at e ⊢
        refine ⟨e.1, ?_⟩
        rw [List.set_append_right _ _ (Nat.le_add_right _ _), Nat.add_sub_cancel_left, e.2]
theorem pass1_up {b : Bool} {o : Opv} {A η : Env} {x : Val} {η' : Env} (e : pass1 b o η = some (x, η')) : pass1 b (o.up A.length) (A ++ η) = some (x, A ++ η') := by
  cases b with
  | true => exact arg1_up e
  | false =>
    simp only [pass1, Bool.false_eq_true, if_false] at e ⊢
    cases e1 : esc1 o η with
    | none =>
      rw [e1] at e
      cases e
    | some q =>
      obtain ⟨y, η1⟩ := q
      rw [e1] at e
      simp only [Option.some.injEq, Prod.mk.injEq] at e
      obtain ⟨rfl, rfl⟩ := e
      rw [esc1_up e1]
theorem pass1_ok {b : Bool} {π : Env} {τ : L2.St} {o : Opv} {v : V} {η : Env} {σ : L2.St} {as : List Addr} {x : Val} {η' : Env} (h : Rep G (π ++ (o.p :: η)) (τ ++ (some v :: σ)) as H Hs) (hl : τ.length = π.length) (l : o.lnk σ v) (e : pass1 b o η = some (x, η')) :
    ∃ as' Hs', Rep G (π ++ (some x :: η')) (τ ++ (some v :: σ)) as' H Hs' ∧ Ext as H Hs as' H Hs' := by
  cases b with
  | true =>
    obtain ⟨as', p, r⟩ := arg1_ok h hl l e
    exact ⟨as', Hs, r, Ext.of_perm p⟩
  | false =>
    simp only [pass1, Bool.false_eq_true, if_false] at e
    cases e1 : esc1 o η with
    | none =>
      rw [e1] at e
      cases e
    | some q =>
      obtain ⟨y, η1⟩ := q
      rw [e1] at e
      simp only [Option.some.injEq, Prod.mk.injEq] at e
      obtain ⟨rfl, rfl⟩ := e
      obtain ⟨as1, Hs1, r1, x1⟩ := esc1_ok h hl l e1
      have ei : (π ++ (some y :: η1))[π.length]? = some (some y) := by simp
      obtain ⟨u, as2, Hs2, eu, r2, x2, _⟩ := r1.freeze ei
      have es : (π ++ (some y :: η1)).set π.length (some (Val.sh y.d)) = π ++ (some (.sh y.d) :: η1) := by
        rw [List.set_append_right _ _ (Nat.le_refl _), Nat.sub_self]
        rfl
      rw [es] at r2
      exact ⟨as2, Hs2, r2, x1.trans x2⟩
theorem argAll_ok : ∀ {os : List Opv} {ms : List Bool} {π : Env} {τ : L2.St} {vs : List V} {η : Env} {σ : L2.St} {as : List Addr} {Hs : Hp} {xs : List Val} {η' : Env}, Rep G (π ++ (os.map Opv.p ++ η)) (τ ++ (vs.map some ++ σ)) as H Hs → τ.length = π.length → Links σ os vs → argAll ms os η = some (xs, η') →
    ∃ as' Hs', Rep G (π ++ (xs.map some ++ η')) (τ ++ (vs.map some ++ σ)) as' H Hs' ∧ Ext as H Hs as' H Hs'
  | [], ms, π, τ, vs, η, σ, as, Hs, xs, η', h, hl, l, e => by
    simp only [argAll, Option.some.injEq, Prod.mk.injEq] at e
    obtain ⟨rfl, rfl⟩ := e
    exact ⟨as, Hs, h, Ext.refl⟩
  | o :: os, ms, π, τ, vs, η, σ, as, Hs, xs, η', h, hl, l, e => by
    obtain ⟨v, ws, rfl, l1, l2⟩ := l
    simp only [argAll] at e
    cases e1 : pass1 (ms.headD true) o η with
    | none =>
      rw [e1] at e
      cases e
    | some p =>
      obtain ⟨x, η1⟩ := p
      rw [e1] at e
      simp only at e
      cases e2 : argAll ms.tail os η1 with
      | none =>
        rw [e2] at e
        cases e
      | some p2 =>
        obtain ⟨xs2, η2⟩ := p2
        rw [e2] at e
        simp only [Option.some.injEq, Prod.mk.injEq] at e
        obtain ⟨rfl, rfl⟩ := e
        have lw := l2.length
        obtain ⟨as1, Hs1, r1, x1⟩ := pass1_ok (π := π) (τ := τ) (o := o.up (os.map Opv.p).length) (v := v) (η := os.map Opv.p ++ η) (σ := ws.map some ++ σ) (by rw [Opv.up_p]; exact h) hl (by
          cases o with
          | pend y => trivial
          | slot i =>
            show (ws.map some ++ σ)[(os.map Opv.p).length + i]? = some (some v)
            rw [show (os.map Opv.p).length = (ws.map (some : V → Option V)).length by simp [lw], List.getElem?_append_right (Nat.le_add_right _ _), Nat.add_sub_cancel_left]
            exact l1) (pass1_up e1)
        have r1' : Rep G ((π ++ [some x]) ++ (os.map Opv.p ++ η1)) ((τ ++ [some v]) ++ (ws.map some ++ σ)) as1 H Hs1 := by simpa using r1
        obtain ⟨as2, Hs2, r2, x2⟩ := argAll_ok r1' (by simp [hl]) l2 e2
        exact ⟨as2, Hs2, by simpa using r2, x1.trans x2⟩
theorem Rep.dropMid {A B : Env} {y : Option Val} {τ σ : L2.St} {s : Option V} {as : List Addr} (h : Rep G (A ++ (y :: B)) (τ ++ (s :: σ)) as H Hs) (hl : τ.length = A.length) : ∃ as', (∀ a ∈ as', a ∈ as) ∧ Rep G (A ++ B) (τ ++ σ) as' H Hs := by
  obtain ⟨a1, a2, rfl, p, q⟩ := h.sub hl
  obtain ⟨a3, q2, m⟩ := q.pop
  obtain ⟨n1, n2, n3⟩ := List.nodup_append.mp h.nd
  refine ⟨a1 ++ a3, fun a ha => ?_, h.le, p.join q2.env, List.nodup_append.mpr ⟨n1, q2.nd, fun a ha b hb => n3 a ha b (m b hb)⟩, fun a ha => ?_, h.tp⟩
  · rcases List.mem_append.mp ha with ha | ha
    · simp [ha]
    · simp [m a ha]
  · rcases List.mem_append.mp ha with ha | ha
    · exact h.off a (by simp [ha])
    · exact h.off a (by simp [m a ha])
theorem backAll_ok : ∀ {os : List Opv} {θ η : Env} {vs : List V} {σ : L2.St} {as : List Addr}, Rep G (η ++ θ) (σ ++ vs.map some) as H Hs → σ.length = η.length → (∀ (j : Nat) (o : Opv), os[j]? = some o → ∀ v, vs[j]? = some v → o.lnk σ v) →
    ∃ as', (∀ a ∈ as', a ∈ as) ∧ Rep G (backAll os θ η) σ as' H Hs
  | [], θ, η, vs, σ, as, h, hl, l => by
    obtain ⟨a1, a2, rfl, p, q⟩ := h.sub hl
    exact ⟨a1, fun a ha => by simp [ha], by cases θ <;> exact ⟨h.le, p, (List.nodup_append.mp h.nd).1, fun a ha => h.off a (by simp [ha]), h.tp⟩⟩
  | o :: os, [], η, vs, σ, as, h, hl, l => by
    obtain ⟨a1, a2, rfl, p, q⟩ := h.sub hl
    exact ⟨a1, fun a ha => by simp [ha], h.le, p, (List.nodup_append.mp h.nd).1, fun a ha => h.off a (by simp [ha]), h.tp⟩
  | o :: os, y :: θ, η, vs, σ, as, h, hl, l => by
    have ll := h.env.length
    cases vs with
    | nil =>
      simp only [List.length_append, List.map_nil, List.length_nil, List.length_cons] at ll
      omega
    | cons v vs =>
      have lo : o.lnk σ v := l 0 o rfl v rfl
      have rest : ∀ {η1 : Env} {as1 : List Addr}, (∀ a ∈ as1, a ∈ as) → η1.length = η.length → Rep G (η1 ++ θ) (σ ++ vs.map some) as1 H Hs → ∃ as', (∀ a ∈ as', a ∈ as) ∧ Rep G (backAll os θ η1) σ as' H Hs := fun m1 e1 r1 => by
        obtain ⟨as', m, r⟩ := backAll_ok r1 (by omega) (os := os) fun j o' e v' e' => l (j + 1) o' (by simpa using e) v' (by simpa using e')
        exact ⟨as', fun a ha => m1 a (m a ha), r⟩
      show ∃ as', (∀ a ∈ as', a ∈ as) ∧ Rep G (backAll os θ (back1 o y η)) σ as' H Hs
      have h' : Rep G (η ++ (y :: θ)) (σ ++ (some v :: vs.map some)) as H Hs := h
      have plain : back1 o y η = η → ∃ as', (∀ a ∈ as', a ∈ as) ∧ Rep G (backAll os θ (back1 o y η)) σ as' H Hs := fun e => by
        rw [e]
        obtain ⟨as1, m1, r1⟩ := h'.dropMid hl
        exact rest m1 rfl r1
      cases o with
      | pend x => exact plain rfl
      | slot i =>
        cases ei : η[i]? with
        | none => exact plain (by simp only [back1, ei])
        | some z =>
          cases z with
          | some z' => exact plain (by simp only [back1, ei])
          | none =>
            have hi : i < η.length := (List.getElem?_eq_some_iff.mp ei).1
            have eb : back1 (.slot i) y η = η.set i y := by simp only [back1, ei]
            cases y with
            | none =>
              refine plain ?_
              rw [eb]
              refine List.ext_getElem? fun j => ?_
              by_cases hj : j = i
              · subst hj
                rw [List.getElem?_set_self hi, ei]
              · rw [List.getElem?_set_ne (Ne.symm hj)]
            | some x =>
              obtain ⟨as1, p1, r1⟩ := Rep.move (i := η.length) (j := i) (x := x) (v := v) h' (by simp) (by rw [List.getElem?_append_left hi]; exact ei) (by rw [← hl]; simp) (by
                have lo' : σ[i]? = some (some v) := lo
                rw [List.getElem?_append_left (by omega)]
                exact lo')
              have es : ((η ++ (some x :: θ)).set η.length none).set i (some x) = η.set i (some x) ++ (none :: θ) := by
                rw [List.set_append_right _ _ (Nat.le_refl _), Nat.sub_self, List.set_append_left _ _ hi]
                rfl
              rw [es] at r1
              obtain ⟨as2, m2, r2⟩ := r1.dropMid (by simp [hl])
              rw [eb]
              exact rest (fun a ha => p1.mem_iff.mp (m2 a ha)) (by simp) r2
end

abbrev FF := List Val → RO Val
def PostF (M : Md) (vs : List V) (as : List Addr) (H Hs : Hp) (Q : VK) (E : XK) : Res Val → Prop
  | .ok x θ => ∀ v as' H' Hs', Rep M.G (some x :: θ) (some v :: vs.map some) as' H' Hs' → Ext as H Hs as' H' Hs' → Q v H'
  | .exc c p θ => ∀ u dx as' H' Hs', Rep M.G (p :: θ) (u :: vs.map some) as' H' Hs' → XRep H' p u dx → Ext as H Hs as' H' Hs' → E (.ref (M.C c)) dx H'
def spD (M : Md) (n : Nat) (F : FF) : Sp := fun vs H Q E => vs.length = n ∧ ∃ xs as Hs r, Rep M.G (xs.map some) (vs.map some) as H Hs ∧ F xs = some r ∧ PostF M vs as H Hs Q E r
/-- constants (defaults) -/
def ConstD (G : Gc) : List D → List V → Prop
  | [], vs => vs = []
  | d :: ds, vs => ∃ v ws, vs = v :: ws ∧ (∀ Hs, RepD G Hs d v) ∧ ConstD G ds ws
theorem ConstD.slots {G : Gc} {H Hs : Hp} : ∀ {ds : List D} {vs : List V}, ConstD G ds vs → RepO G H Hs ((ds.map Val.sh).map some) (vs.map some) []
  | [], vs, h => by
    obtain rfl : vs = [] := h
    exact ⟨rfl, rfl⟩
  | d :: ds, vs, h => by
    obtain ⟨v, ws, rfl, r, q⟩ := h
    exact ⟨v, ws.map some, [], [], rfl, rfl, RepV.sh_iff.mpr ⟨rfl, r Hs⟩, ConstD.slots q⟩
def callR (n : Nat) (ms : List Bool) (F : FF) (dv : List D) (os : List Opv) (η : Env) : RO Opv := match argAll ms os η with
  | some (xs, η1) => (match (if os.length + dv.length = n then F (xs ++ dv.map .sh) else none) with
    | some (.ok x θ) => some (.ok (.pend x) (backAll os θ η1))
    | some (.exc c p θ) => some (.exc c p (backAll os θ η1))
    | none => none)
  | none => none
theorem Links.at {σ : L2.St} : ∀ {os : List Opv} {vs : List V}, Links σ os vs → ∀ (j : Nat) (o : Opv), os[j]? = some o → ∀ v, vs[j]? = some v → o.lnk σ v
  | [], _, _, j, o, e, _, _ => by simp at e
  | o' :: os, vs, h, j, o, e, v, e' => by
    obtain ⟨w, ws, rfl, l1, l2⟩ := h
    cases j with
    | zero =>
      simp at e e'
      subst e e'
      exact l1
    | succ j => exact Links.at l2 j o (by simpa using e) v (by simpa using e')
theorem back_ok {G : Gc} {H Hs : Hp} {os : List Opv} {θ η : Env} {vs ws : List V} {σ : L2.St} {as : List Addr} (h : Rep G (η ++ θ) (σ ++ (vs ++ ws).map some) as H Hs) (hl : σ.length = η.length) (l : Links σ os vs) :
    ∃ as', (∀ a ∈ as', a ∈ as) ∧ Rep G (backAll os θ η) σ as' H Hs :=
  backAll_ok h hl fun j o e v e' => l.at j o e v (by
    have hj : j < vs.length := by
      rw [l.length]
      exact (List.getElem?_eq_some_iff.mp e).1
    rw [List.getElem?_append_left hj] at e'
    exact e')
theorem ConstD.length {G : Gc} : ∀ {ds : List D} {vs : List V}, ConstD G ds vs → vs.length = ds.length
  | [], vs, h => by
    obtain rfl : vs = [] := h
    rfl
  | d :: ds, vs, h => by
    obtain ⟨v, ws, rfl, _, q⟩ := h
    simp [ConstD.length q]
theorem argAll_len : ∀ {os : List Opv} {ms : List Bool} {η : Env} {xs : List Val} {η' : Env}, argAll ms os η = some (xs, η') → xs.length = os.length
  | [], ms, η, xs, η', h => by
    simp only [argAll, Option.some.injEq, Prod.mk.injEq] at h
    rw [← h.1]
    rfl
  | o :: os, ms, η, xs, η', h => by
    simp only [argAll] at h
    cases q1 : pass1 (ms.headD true) o η with
    | none => rw [q1] at h; cases h
    | some z =>
      obtain ⟨y, ηy⟩ := z
      rw [q1] at h
      simp only at h
      cases q2 : argAll ms.tail os ηy with
      | none => rw [q2] at h; cases h
      | some z2 =>
        obtain ⟨ys, ηz⟩ := z2
        rw [q2] at h
        simp only [Option.some.injEq, Prod.mk.injEq] at h
        rw [← h.1]
        simp [argAll_len q2]
/-- a call between what is handed over and what stands beside -/
theorem call_frame {G : Gc} {dv : List D} {dvs : List V} (hd : ConstD G dv dvs) {os : List Opv} {xs : List Val} {vs : List V} {η1 : Env} {σ : L2.St} {as1 : List Addr} {H Hs1 : Hp}
    (r1 : Rep G (xs.map some ++ η1) (vs.map some ++ σ) as1 H Hs1) (lx : xs.length = os.length) (l : Links σ os vs) :
    ∃ b1, Rep G ((xs ++ dv.map Val.sh).map some) ((vs ++ dvs).map some) b1 H Hs1 ∧ ∀ {θ : Env} {x : Option Val} {s : Option V} {b : List Addr} {H' Hs' : Hp}, Rep G (x :: θ) (s :: (vs ++ dvs).map some) b H' Hs' → Ext b1 H Hs1 b H' Hs' →
        ∃ as', Rep G (x :: backAll os θ η1) (s :: σ) as' H' Hs' ∧ Ext as1 H Hs1 as' H' Hs' := by
  obtain ⟨b1, b2, rfl, pv, q⟩ := r1.sub (by simp [lx, l.length])
  obtain ⟨n1, n2, n3⟩ := List.nodup_append.mp r1.nd
  have hl : σ.length = η1.length := q.env.length.symm
  refine ⟨b1, ?_, fun {θ x s b H' Hs'} rr xx => ?_⟩
  · have j := pv.join (hd.slots (H := H) (Hs := Hs1))
    rw [List.append_nil] at j
    rw [List.map_append, List.map_append]
    exact ⟨r1.le, j, n1, fun a ha => r1.off a (by simp [ha]), r1.tp⟩
  · have nd2 : (b2 ++ b1).Nodup := List.perm_append_comm.nodup_iff.mpr r1.nd
    obtain ⟨r2, x2⟩ := Rep.frame q.env nd2 (fun a ha => r1.off a (by simp [ha])) rr xx
    have r3 : Rep G ((η1 ++ [x]) ++ θ) ((σ ++ [s]) ++ (vs ++ dvs).map some) (b2 ++ b) H' Hs' := by simpa using r2
    obtain ⟨c1, c2, e5, pc, qc⟩ := r3.sub (by simp [hl])
    have r4 : Rep G (η1 ++ [x]) (σ ++ [s]) c1 H' Hs' := ⟨r2.le, pc, by rw [e5] at r2; exact (List.nodup_append.mp r2.nd).1, fun a ha => r2.off a (by rw [e5]; simp [ha]), r2.tp⟩
    obtain ⟨c3, p3, r5⟩ := r4.swap hl
    have pp : (c3 ++ c2).Perm (b2 ++ b) := by
      rw [e5]
      exact p3.append_right _
    have r6 : Rep G (([x] ++ η1) ++ θ) (([s] ++ σ) ++ (vs ++ dvs).map some) (c3 ++ c2) H' Hs' := ⟨r2.le, r5.env.join qc.env, pp.nodup_iff.mpr r2.nd, fun a ha => r2.off a (pp.mem_iff.mp ha), r2.tp⟩
    obtain ⟨d1, d2, e7, pd, qd⟩ := Rep.sub (π := [x]) (τ := [s]) (η := η1 ++ θ) (σ := σ ++ (vs ++ dvs).map some) (by simpa using r6) rfl
    obtain ⟨f1, mf, rf⟩ := back_ok qd hl l
    have nn := r6.nd
    rw [e7] at nn
    obtain ⟨k1, k2, k3⟩ := List.nodup_append.mp nn
    have mm : ∀ a ∈ d1 ++ f1, a ∈ b2 ++ b := fun a ha => pp.mem_iff.mp (by
      rw [e7]
      rcases List.mem_append.mp ha with z | z
      · simp [z]
      · simp [mf a z])
    refine ⟨d1 ++ f1, ⟨r2.le, pd.join rf.env, List.nodup_append.mpr ⟨k1, rf.nd, fun a ha c hc => k3 a ha c (mf c hc)⟩, fun a ha => r2.off a (mm a ha), r2.tp⟩, ?_⟩
    exact (x2.perm List.perm_append_comm).less mm
theorem callR_ok {M : Md} {W : WX} {ms : List Bool} {F : FF} {dv : List D} {dvs : List V} {n : Nat} (hd : ConstD M.G dv dvs) {os : List Opv} {vs : List V} {η : Env} {σ : L2.St} {as as0 : List Addr} {H Hs H0 Hs0 : Hp} {res : Res Opv} {Q : VK}
    (h : Rep M.G (os.map Opv.p ++ η) (vs.map some ++ σ) as H Hs) (l : Links σ os vs) (x0 : Ext as0 H0 Hs0 as H Hs) (e : callR n ms F dv os η = some res) (hp : PostO M.G W σ as0 H0 Hs0 Q res) :
    spD M n F (vs ++ dvs) H Q (fun cls d H' => W cls d σ H') := by
  unfold callR at e
  cases e1 : argAll ms os η with
  | none =>
    rw [e1] at e
    cases e
  | some p =>
    obtain ⟨xs, η1⟩ := p
    rw [e1] at e
    simp only at e
    by_cases hn' : os.length + dv.length = n
    case neg =>
      rw [if_neg hn'] at e
      cases e
    rw [if_pos hn'] at e
    obtain ⟨as1, Hs1, r1, p1⟩ := argAll_ok (π := []) (τ := []) h rfl l e1
    obtain ⟨b1, rc, beside⟩ := call_frame hd (os := os) (xs := xs) (η1 := η1) (as1 := as1) r1 (argAll_len e1) l
    refine ⟨by rw [List.length_append, l.length, hd.length, hn'], xs ++ dv.map Val.sh, b1, Hs1, ?_⟩
    cases e2 : F (xs ++ dv.map Val.sh) with
    | none =>
      rw [e2] at e
      cases e
    | some rr =>
      rw [e2] at e
      refine ⟨rr, rc, rfl, ?_⟩
      cases rr with
      | ok x θ =>
        obtain rfl : res = .ok (.pend x) (backAll os θ η1) := (Option.some.inj e).symm
        intro v as' H' Hs' rr' xx
        obtain ⟨as2, r2, x2⟩ := beside rr' xx
        exact hp v as2 H' Hs' r2 trivial (x0.trans (p1.trans x2))
      | exc c p θ =>
        obtain rfl : res = .exc c p (backAll os θ η1) := (Option.some.inj e).symm
        intro u dx as' H' Hs' rr' xr xx
        obtain ⟨as2, r2, x2⟩ := beside rr' xx
        exact hp u dx as2 H' Hs' r2 xr (x0.trans (p1.trans x2))
/-- a class called: __init__ on the new object -/
def makeR (c n : Nat) (ms : List Bool) (F : FF) (dv : List D) (os : List Opv) (η : Env) : RO Opv := match argAll ms (.pend (.oi c [] []) :: os) η with
  | some (xs, η1) => (match (if (os.length + 1) + dv.length = n then F (xs ++ dv.map .sh) else none) with
    | some (.ok (.sh .non) (some y :: θ)) => some (.ok (.pend y) (backAll os θ η1))
    | some (.exc c p (_ :: θ)) => some (.exc c p (backAll os θ η1))
    | _ => none)
  | none => none
theorem makeR_ok {M : Md} {W : WX} {ms : List Bool} {F : FF} {dv : List D} {dvs : List V} {c n : Nat} (hd : ConstD M.G dv dvs) {os : List Opv} {vs : List V} {η : Env} {σ : L2.St} {as as0 : List Addr} {H Hs H0 Hs0 : Hp} {res : Res Opv} {Q : VK}
    (h : Rep M.G (os.map Opv.p ++ η) (vs.map some ++ σ) as H Hs) (l : Links σ os vs) (x0 : Ext as0 H0 Hs0 as H Hs) (e : makeR c n ms F dv os η = some res) (hp : PostO M.G W σ as0 H0 Hs0 Q res)
    (x dx : Addr) (nx : H x = none) (ndx : H dx = none) (nex : dx ≠ x) :
    spD M n F (.ref x :: (vs ++ dvs)) (upd (upd H dx (.own x)) x (.ins (M.C c) dx [])) (fun v H2 => v = .non ∧ Q (.ref x) H2) (fun cls d H' => W cls d σ H') := by
  have k1 : Sub H (upd (upd H dx (.own x)) x (.ins (M.C c) dx [])) := fun b o e => by
    rw [upd_ne (ne_of_none e nx), upd_ne (ne_of_none e ndx)]
    exact e
  obtain ⟨h1, x1⟩ := h.push (x := .oi c [] []) (v := .ref x) (b := [x, dx]) (H' := upd (upd H dx (.own x)) x (.ins (M.C c) dx [])) k1 (by
    simp only [RepV]
    refine ⟨x, dx, [], [], rfl, rfl, upd_same, ?_, rfl, RepVs.nil_iff.mpr ⟨rfl, rfl⟩⟩
    rw [upd_ne nex, upd_same]) (by simp [nex.symm]) (fun a ha => by
    rcases List.mem_cons.mp ha with rfl | ha
    · exact nx
    · rw [List.mem_singleton] at ha
      rw [ha]
      exact ndx) (addT_of fun b vs eb z => by
    by_cases q : b = x
    · subst q
      rw [upd_same] at z
      cases z
    · rw [upd_ne q] at z
      by_cases q2 : b = dx
      · subst q2
        rw [upd_same] at z
        cases z
      · rw [upd_ne q2, eb] at z
        cases z)
  unfold makeR at e
  cases e1 : argAll ms (.pend (.oi c [] []) :: os) η with
  | none =>
    rw [e1] at e
    cases e
  | some p =>
    obtain ⟨xs, η1⟩ := p
    rw [e1] at e
    simp only at e
    by_cases hn' : (os.length + 1) + dv.length = n
    case neg =>
      rw [if_neg hn'] at e
      cases e
    rw [if_pos hn'] at e
    have l' : Links σ (.pend (.oi c [] []) :: os) (.ref x :: vs) := ⟨_, _, rfl, trivial, l⟩
    obtain ⟨as1, Hs1, r1, p1⟩ := argAll_ok (os := .pend (.oi c [] []) :: os) (π := []) (τ := []) (vs := .ref x :: vs) h1 rfl l' e1
    obtain ⟨b1, rc, beside⟩ := call_frame hd (os := .pend (.oi c [] []) :: os) (vs := .ref x :: vs) (xs := xs) (η1 := η1) (as1 := as1) r1 (argAll_len e1) l'
    refine ⟨by rw [List.length_cons, List.length_append, l.length, hd.length]; omega, xs ++ dv.map Val.sh, b1, Hs1, ?_⟩
    cases e2 : F (xs ++ dv.map Val.sh) with
    | none =>
      rw [e2] at e
      cases e
    | some rr =>
      rw [e2] at e
      refine ⟨rr, rc, rfl, ?_⟩
      cases rr with
      | ok z θ =>
        cases z with
        | sh d =>
          cases d with
          | non =>
            cases θ with
            | nil => cases e
            | cons y θ =>
              cases y with
              | none => cases e
              | some y =>
                obtain rfl : res = .ok (.pend y) (backAll os θ η1) := (Option.some.inj e).symm
                intro v as' H' Hs' rr' xx
                have rr2 := rr'.env
                obtain ⟨w, σ', a1, a2, e5, rfl, pz, qz⟩ := rr2
                obtain ⟨e6, rfl⟩ := List.cons.inj e5
                obtain ⟨rfl, rd⟩ := RepV.sh_iff.mp pz
                obtain rfl : v = w := Option.some.inj e6
                simp only [RepD] at rd
                refine ⟨rd, ?_⟩
                obtain ⟨u, σ'', c1, c2, e7, rfl, py, qy⟩ := qz
                obtain ⟨e8, rfl⟩ := List.cons.inj e7
                have e8' : V.ref x = u := Option.some.inj e8
                subst e8'
                have rr3 : Rep M.G (some y :: none :: θ) (some (.ref x) :: ((.ref x :: vs) ++ dvs).map some) (c1 ++ c2) H' Hs' :=
                  ⟨rr'.le, ⟨_, _, c1, c2, rfl, rfl, py, ⟨_, _, rfl, qy⟩⟩, rr'.nd, rr'.off, rr'.tp⟩
                obtain ⟨as2, r2, x2⟩ := beside rr3 xx
                exact hp (.ref x) as2 H' Hs' r2 trivial (x0.trans (x1.trans (p1.trans x2)))
          | _ => cases e
        | _ => cases e
      | exc c' p θ =>
        cases θ with
        | nil => cases e
        | cons y θ =>
          obtain rfl : res = .exc c' p (backAll os θ η1) := (Option.some.inj e).symm
          intro u dx' as' H' Hs' rr' xr xx
          obtain ⟨as2, r2, x2⟩ := beside rr' xx
          exact hp u dx' as2 H' Hs' r2 xr (x0.trans (x1.trans (p1.trans x2)))
end Wp
end
section
set_option Elab.async false
set_option linter.all false
set_option maxRecDepth 100000
namespace Wp
open PySem PySem.Spec PyProof.Rows L2

structure FnG (P : Program) (w : World) (K : PySem.W.Frag) (mg : Str → Option Value) (base : Heap) (k : Nat) (f : Addr) (fd : FuncData) (ps : List Str) (sp : Sp) : Prop where
  len : ∀ vs H Q E, sp vs H Q E → vs.length = ps.length
  run : ∀ (A : Around) (outer : List PySem.Env) (s : Shared) (H : Hp) (args : Args) (us : List Value) (vs : List V) (Q : VK) (E : XK), A.guards = some [] → Room k A → Env0 P w K mg base A outer s H →
    BindsTo s fd args (ps.zip us) → Vals vs us → sp vs H Q E → codeAny (model P w) A (.call (.ref f) args) (CR (L2.CX P w) outer P w H s Q E) s
theorem FnG.mono {P : Program} {w : World} {K : PySem.W.Frag} {mg : Str → Option Value} {base : Heap} {j k : Nat} {f : Addr} {fd : FuncData} {ps : List Str} {sp : Sp} (F : FnG P w K mg base j f fd ps sp) (h : j ≤ k) : FnG P w K mg base k f fd ps sp :=
  ⟨F.len, fun A o s H a us vs Q E g r => F.run A o s H a us vs Q E g (r.mono h)⟩
section
variable {X : Cx} {W : WX} {k : Nat} {f : Addr} {fd : FuncData} {ps : List Str} {sp : Sp} {dvs : List V} {ds : List Value} {x : Str} {p pos : Pos} {e : Expr} {es : List Expr} {t : TA}
theorem runG {pins : List (Addr × Obj)} {σ : L2.St} {H : Hp} {s : Shared} {Q : VK} {us : List Value} {vs : List V} (F : FnG X.prog X.w X.K X.mg X.base k f fd ps sp) (gd : X.A.guards = some []) (hr : Room k X.A) (hb : L2.Binds X.K fd ps ds) (hd : Vals dvs ds)
    (tk : Takes X W) (I : Inv X pins σ H s) (r : Vals vs us) (h : sp (vs ++ dvs) H Q (WE W σ)) : wpAny (model X.prog X.w) X.A (call (.ref f) us) (EP X pins σ Q) X.xe s := by
  have rr := r.append hd
  have run := F.run X.A X.stack s H ⟨us, []⟩ _ _ Q (WE W σ) gd hr I.env0 (hb s us I.kIn (by rw [← rr.length]; exact F.len _ _ _ _ h)) rr h
  refine wpAny_call (codeAny_mono run fun res s' hres => ?_)
  rcases res with er | fl
  · exact passAt tk σ pins H s er s' I hres
  · cases fl <;> first | exact I.after hres | exact hres.elim
theorem pe_callG (F : FnG X.prog X.w X.K X.mg X.base k f fd ps sp) (gd : X.A.guards = some []) (hr : Room k X.A) (hg : Gl X x) (hm : X.mg x = some (.ref f)) (hk : PySem.W.keepIn X.K (.ref f) = true) (hb : L2.Binds X.K fd ps ds) (hd : Vals dvs ds) (tk : Takes X W)
    (ha : PA X (e :: es) t) (hdb : (x == ("__debug__" : Str)) = false) (h1 : starEach (e :: es) X.env = (false, eval e X.env) :: starEach es X.env) (h2 : (backTo pos (starEach es X.env)).any (·.1) = false) :
    PE X (.Call (.Name x p) (e :: es) [] pos) (fun σ H Q => t σ H fun vs H1 => sp (vs ++ dvs) H1 Q (WE W σ)) := by
  refine ⟨fun pins s σ H Q I h => wpAny_Call_Name_kw (ld_glob I hg hm ?_ hdb)⟩
  exact PySem.W.callWith_K (h₀ := X.base) I.ok.mod.kin hk (thn (ha.run pos pins s σ H _ I h) fun us s1 ⟨vs, H1, I1, r, q⟩ => ⟨I1.kIn, runG F gd hr hb hd tk I1 r q⟩) h1 h2
/-- a property's getter -/
theorem propG {C pa g a dx : Addr} {fs : List (Str × V)} {fl : Str} {E : XK} {pins : List (Addr × Obj)} {σ : L2.St} {H : Hp} {s : Shared} {Q : VK} {b : Bool} {E' : Value → Shared → Prop} (I : Inv X pins σ H s) (ea : H a = some (.ins C dx fs)) (c : Cls X.K C) (hp : PropOf X.K C fl pa g)
    (F : FnG X.prog X.w X.K X.mg X.base k g fd ps sp) (gd : X.A.guards = some []) (hr : Room (k + 1) X.A) (hb : L2.Binds X.K fd ps ds) (hd : Vals dvs ds) (hx : Passes (L2.CX X.prog X.w) X.nox E) (h : sp (.ref a :: dvs) H Q E) :
    wpAny (model X.prog X.w) X.A (getAttr (.ref a) fl b) (EP X pins σ Q) E' s := by
  obtain ⟨mA, O, o1, o2, o3, o4⟩ := ins_get I.hok ea
  obtain ⟨od, J, j2⟩ := O.look
  obtain ⟨rest, isP⟩ := hp.rec_
  have T := I.tok (s.toks + 1)
  have n1 : ([Value.ref a] ++ ds).length = ps.length := by
    have n2 := F.len _ _ _ _ h
    simp only [List.length_cons, List.length_append, hd.length] at n2 ⊢
    simp only [List.length_nil]
    omega
  have isC : (PySem.W.clsIn X.K C).isSome = true := by
    obtain ⟨cd, z, _⟩ := PySem.W.any_some c.hd
    simp only [z, Option.isSome_some]
  have run := F.run X.A.in1 X.stack { s with toks := s.toks + 1 } H ⟨[.ref a], []⟩ (.ref a :: ds) (.ref a :: dvs) Q E gd hr.in1 T.env0.in1 (hb _ [.ref a] T.kIn n1) (.cons rfl hd) h
  obtain ⟨pg1, pg2⟩ := PySem.W.plainGet_of (c.get fl)
  refine PySem.W.get_bind I.kIn J pg1 (PySem.W.findObj_data isC hp.at_ hp.get hp.tak) pg2 (wpAny_call (PySem.W.prop_get (s := { s with toks := s.toks + 1 }) I.kIn isP (codeAny_mono run fun res s' hres => ?_)))
  rcases res with er | fw
  · exact (hx pins σ H { s with toks := s.toks + 1 } er s' (T.wish _) hres).elim
  · cases fw with
    | ret u =>
      obtain ⟨v, H', I3, rv, q3⟩ := T.after hres
      show wpAny _ _ (handedOut u) _ _ _
      rw [PySem.W.handedOut_of (handed_of rv)]
      exact wpAny_pure ⟨v, H', I3, rv, q3⟩
    | _ => exact hres.elim
end

theorem FunD.fnG {P : Program} {w : World} {K : PySem.W.Frag} {mg : Str → Option Value} {base : Heap} {k : Nat} {f : Addr} {fd : FuncData} {x qual : Str} {params : Arguments} {body : List Stmt} {scope : Scope} {dvs : List V} {kws : List (Str × V)} {N ps : List Str} {sp : Sp}
    (F : FunD K x qual params body scope dvs kws f fd) (S : FnScope N ps scope) (len : ∀ vs H Q E, sp vs H Q E → vs.length = ps.length)
    (hbody : ∀ (cdv : Value) (A : Around) (outer : List PySem.Env) (s : Shared) (H : Hp) (vs : List V) (Q : VK) (E : XK), A.guards = some [] → Room k (A.deeper (envOfC qual scope s.heap.objs.size f cdv)) → sp vs H Q E →
      ∃ t, PSs (cxOf (L2.CX P w) P w K mg base N qual scope f cdv A outer s H E) body t ∧ t { nx := fun _ H' => Q .non H', rt := Q } (L2.start N vs) H) : FnG P w K mg base (k + 1) f fd ps sp := by
  obtain ⟨oc, od, dV, kV, doc, pm, an, cdv, ct, osl, rfl, lk, hcd, z1, z2⟩ := F.ex
  constructor
  · exact len
  intro A outer s H args us vs Q E gd hr e0 bind rel hsp
  have old := fun b o e => (e0.bs b o e).1
  have inK : K.In s.heap := e0.mod.kin.keeps old
  have nolim : s.heap.NoLimit := e0.mod.nolimit.keeps old
  refine codeAny_call_function hr.depth (inK _ _ lk) rfl S.co S.gen rfl (PySem.W.codeRec_of inK hcd) (bind _ _ _ _ (wpAny_newFunctionEnv_cells S.kind (fun y hy => ?_) fun env he s1 nw => ?_))
  · rcases S.par y.1 (List.of_mem_zip hy).1 with q | q
    · exact Or.inl q
    · exact Or.inr ⟨q, PySem.W.cellsFrom_some _ _ _ (Or.inl q)⟩
  · subst he
    refine ⟨nolim.keeps nw.toInCall.keep, codeAny_func ?_⟩
    obtain ⟨t, ht, hq⟩ := hbody cdv A outer s H vs Q E gd (hr.deeper _) hsp
    have beg : Inv (cxOf (L2.CX P w) P w K mg base N qual scope f cdv A outer s H E) [] (L2.start N vs) H s1 := inv_start S hr.hd e0 (len _ _ _ _ hsp) rel nw
    refine wpAny_mono (ht.run [] s1 (L2.start N vs) H _ beg hq) (fun fl s' ends => ?_) fun _ _ z => z
    cases fl with
    | next =>
      obtain ⟨σ1, H1, J, q⟩ := ends
      exact ⟨V.non, H1, J.os, J.bare, J.base, J.hok, rfl, q⟩
    | ret u =>
      obtain ⟨v, σ1, H1, J, rv, q⟩ := ends
      exact ⟨v, H1, J.os, J.bare, J.base, J.hok, rv, q⟩
    | brk =>
      obtain ⟨z3, z4, z5, q⟩ := ends
      exact q.elim
    | cont =>
      obtain ⟨z3, z4, z5, q⟩ := ends
      exact q.elim

/-- the heap that the layer sees at first: the script, if it is not one of K's -/
def hp0 (K : PySem.W.Frag) (a : Addr) (vs : List Value) (ns : List Int) : Hp := fun b => if K.lookup a = none ∧ b = a then some (.frz { cls := .type "list", data := .seq vs.toArray } (.lst (ns.map V.int))) else none
theorem hp0_other {K : PySem.W.Frag} {a b : Addr} {vs : List Value} {ns : List Int} (h : b ≠ a) : hp0 K a vs ns b = none := if_neg fun z => h z.2
theorem law_callG {P : Program} {w : World} {K : PySem.W.Frag} {mg mb : Str → Option Value} {k : Nat} {fa a : Addr} {fd : FuncData} {x : Str} {sp : Sp} {s1 : Shared} {vs : List Value} {ns : List Int}
    (inK : K.In s1.heap) (glob : s1.heap.Ns mainGlobals mg) (bu : s1.heap.Ns builtinsNs mb) (boot : ∀ y : Str, y ≠ "__name__" → mb y = bootBuiltins y) (nolim : s1.heap.NoLimit) (nogen : s1.gens = #[])
    (ha : s1.heap.get? a = some { cls := .type "list", data := .seq vs.toArray }) (hi : IntsAre vs ns) (hl : ns.length ≤ sizeLine) (hr : Room k callerA)
    (F : ∀ base : Heap, K.In base → base.Ns mainGlobals mg → FnG P w K mg base k fa fd [x] sp) (hbind : ∀ (s : Shared) (u : Value), BindsTo s fd ⟨[u], []⟩ [(x, u)])
    (hsp : ∀ H : Hp, SqL K H a (ns.map V.int) → sp [.ref a] H (fun v _ => v = .bl true) fun _ _ _ => False) :
    codeAny (model P w) callerA (.call (.ref fa) ⟨[.ref a], []⟩) (fun r s' => r = .ok (.ret (.bool true)) ∧ OldK s1.heap s'.heap ∧ s'.os = s1.os ∧ AllBare s'.gens) s1 := by
  have rv : Vals (ns.map V.int) vs := vals_ints hi
  have ln := hi.length
  generalize eH : hp0 K a vs ns = H
  have off : ∀ {b : Addr}, b ≠ a → H b = none := fun h => by rw [← eH]; exact hp0_other h
  have offK : ∀ {b : Addr} {o : Obj}, K.lookup b = some o → H b = none := fun {b o} e => by
    rw [← eH]
    unfold hp0
    split
    · rename_i z
      rw [z.2, z.1] at e
      cases e
    · rfl
  have form : ∀ b u, H b = some u → b = a ∧ u = .frz { cls := .type "list", data := .seq vs.toArray } (.lst (ns.map V.int)) := fun b u e => by
    rw [← eH] at e
    unfold hp0 at e
    split at e
    · rename_i z
      exact ⟨z.2, (Option.some.inj e).symm⟩
    · cases e
  have sq : SqL K H a (ns.map V.int) := by
    cases hk : K.lookup a with
    | none => exact .inl (.inr ⟨_, by rw [← eH]; exact if_pos ⟨hk, rfl⟩⟩)
    | some o =>
      have z := inK a o hk
      rw [ha] at z
      cases z
      exact .inr ⟨_, vs.toArray, _, hk, rfl, rfl, rfl, by rw [List.size_toArray, ln]; exact hl, by simpa using rv⟩
  have hok : HOk P w H s1.heap := fun b u e => by
    obtain ⟨rfl, rfl⟩ := form b u e
    exact ⟨ha, by rw [List.length_map]; exact hl, vs, _, rv, ha⟩
  have sees : ∀ {b : Addr} {o : Obj}, s1.heap.get? b = some o → H b = none → (hidT s1.heap H).get? b = some o := fun e n => hidT_get e n
  have isDict : ∀ {b : Addr} {o : Obj} {es : Array DictEntry} {ep : Nat}, s1.heap.get? b = some o → o.data = .dict es ep → H b = none := fun {b o es ep} e d => off fun z => by
    subst z
    rw [ha] at e
    cases e
    have d2 : Data.seq vs.toArray _ = Data.dict es ep := d
    cases d2
  have spaces : ∀ {b : Addr} {m : Str → Option Value}, s1.heap.Ns b m → (hidT s1.heap H).Ns b m := fun {b m} ⟨o, es, ep, e, d, r⟩ => ⟨o, es, ep, sees e (isDict e d), d, r⟩
  have kb : K.In (hidT s1.heap H) := fun b o e => sees (inK b o e) (offK e)
  obtain ⟨mc, c1, c2⟩ := nolim
  have e0 : Env0 P w K mg (hidT s1.heap H) callerA [] s1 H :=
    ⟨rfl, ⟨kb, spaces glob, ⟨mb, spaces bu, boot⟩, ⟨mc, spaces c1, c2⟩⟩, fun b o e => of_hidT e, Nat.le_of_eq (hidT_size _ _), trivial, (fun b hb => nomatch (show b ∈ ([] : List Addr) from hb)), hok, .of_eq nogen⟩
  have run := (F _ kb (spaces glob)).run callerA [] s1 H ⟨[.ref a], []⟩ [.ref a] [.ref a] _ _ rfl hr e0 (hbind s1 (.ref a)) (.cons rfl .nil) (hsp H sq)
  refine codeAny_mono run fun res s' hres => ?_
  rcases res with er | fw
  · obtain ⟨z1, z2, z3, z4, z5, z6, z7, z8, z9, z10, z11, z12, z13⟩ := hres
    exact z13.elim
  cases fw with
  | ret u =>
    obtain ⟨v, H', os, bare, un, hok', r', q⟩ := hres
    obtain rfl : v = .bl true := q
    obtain rfl : u = Value.bool true := r'
    refine ⟨rfl, OldK.of_keep fun b o e => ?_, os, bare⟩
    cases q : H b with
    | none => exact un.keep b o e q (fun z => nomatch (show b ∈ ([] : List Addr) from z)) (by simp)
    | some u =>
      obtain ⟨rfl, rfl⟩ := form b u q
      obtain ⟨y1, y2⟩ := hok b _ q
      obtain ⟨y3, y4⟩ := hok' b _ (un.frzs b _ _ q)
      rw [e] at y1
      cases y1
      exact y3
  | _ => exact hres.elim
theorem walkG {l : PySem.W.OpenLaw} {n k : Nat} {q : Program} {loose : List Str} {XP : (Str → Option Value) → Heap → Prop} {YP : World → Heap → Prop} {d : DefRec} {x : Str}
    (hn : l.most = some n) (hn2 : n ≤ sizeLine) (hdf : d.params.defaults = []) (hr : Room k callerA)
    (F : ∀ (w : World) (mg : Str → Option Value) (fa : Addr) (h : Heap), YP w h → h.Ns mainGlobals mg → mg d.name = some (.ref fa) →
      ∃ (K : PySem.W.Frag) (fd : FuncData) (sp : Sp), K.In h ∧ (∀ (s : Shared) (u : Value), BindsTo s fd ⟨[u], []⟩ [(x, u)]) ∧
        (∀ (H : Hp) (a : Addr) (ns : List Int), ns.length ≤ n → SqL K H a (ns.map V.int) → sp [.ref a] H (fun v _ => v = .bl true) fun _ _ _ => False) ∧
        ∀ base : Heap, K.In base → base.Ns mainGlobals mg → FnG l.prog w K mg base k fa fd [x] sp) :
    PySem.W.WalkO q loose XP YP l.row.toRowW d [] (fun f vs => PySem.call f vs) := by
  refine Att.attach_call hn hdf fun w s₀ s₁ mg mb fa o pm cd doc a vs ns G Y ho hd hcd hmg hobj hints hlen hg => ?_
  obtain ⟨K, fd, sp, KX, hb, hsp, hF⟩ := F w mg fa _ Y G.T.g hmg
  exact law_callG KX G.T.g G.T.b G.T.builtins G.T.nolimit hg hobj hints (Nat.le_trans hlen hn2) hr hF hb (fun H hS => hsp H a ns hlen hS)
end Wp
end
section
set_option Elab.async false
set_option linter.all false
set_option maxRecDepth 100000
namespace Wp
open PySem PySem.Spec PyProof.Rows L2

def noStar : Expr → Bool
  | .Starred .. => false
  | _ => true
theorem star_cons {e : Expr} {es : List Expr} {env : PySem.Env} (h : noStar e = true) : starEach (e :: es) env = (false, eval e env) :: starEach es env := by
  cases e <;> first | rfl | cases h
theorem star_plain {env : PySem.Env} {pos : Pos} : ∀ {es : List Expr}, es.all noStar = true → (backTo pos (starEach es env)).any (·.1) = false
  | [], _ => rfl
  | e :: es, h => by
    rw [List.all_cons, Bool.and_eq_true] at h
    rw [star_cons h.1]
    show (false || (backTo pos (starEach es env)).any (·.1)) = false
    rw [star_plain h.2]
    rfl
theorem star_all {env : PySem.Env} {pos : Pos} : ∀ {es : List Expr}, es.all noStar = true → (backTo pos (starEach es env)).all (!·.1) = true
  | [], _ => rfl
  | e :: es, h => by
    rw [List.all_cons, Bool.and_eq_true] at h
    rw [star_cons h.1]
    show (!false && (backTo pos (starEach es env)).all (!·.1)) = true
    rw [star_all h.2]
    rfl
def baseOk : Expr → Bool
  | .Call (.Name _ _) [] [] _ => false
  | _ => true
theorem base_ok {o : Expr} {f : Str} {env : PySem.Env} {whole : Sem Value} (h : baseOk o = true) : attributeBase o f env whole = whole := by
  unfold attributeBase
  split
  · cases h
  · rfl
theorem mcall_form {o : Expr} {m : Str} {apos pos : Pos} {es : List Expr} {env : PySem.Env} (hb : baseOk o = true) (hs : es.all noStar = true) (hn : es.length < 30) (hl : (apos.endLine == pos.line) = true) :
    eval (.Call (.Attribute o m apos) es [] pos) env = (do
      let ov ← eval o env
      standAt apos.atName
      let (f, first) ← holding [ov] (getMethod ov m (plainOf o env))
      callWith pos f first (backTo pos (starEach es env)) (backToKw pos (keywordEach [] env))) := by
  rw [arm_eval_Call, base_ok hb]
  have hf : methodCallForm (es.length + ([] : List Keyword).length) (backTo pos (starEach es env)) (backToKw pos (keywordEach [] env)) = true := by
    show ((backTo pos (starEach es env)).all (!·.1) && true && decide (es.length + 0 + 0 < 30)) = true
    rw [star_all hs]
    simp [hn]
  refine congrArg _ (funext fun ov => congrArg _ (funext fun _ => ?_))
  exact mcall_line hf hl

structure Sc where
  N : List Str
  sc : Scope
  own : Str → Bool
structure Cok (M : Md) (S : Sc) (k : Nat) (W : WX) (X : Cx) : Prop where
  md : mdOf X M.C = M
  N : X.N = S.N
  sc : X.env.scope = S.sc
  own : ∀ x, S.own x = true → X.fn x = true
  calm : X.calm = true
  nd : S.N.Nodup
  gd : X.A.guards = some []
  room : Room k X.A
  tk : Takes X W
  po : PassesOwn (model X.prog X.w) X.A X.env X.xe

/-- a def that may be called -/
structure Cb (M : Md) (k : Nat) (f : Addr) (F : FF) (n : Nat) (df : List D) : Prop where
  ex : ∃ fd ps, FnG M.prog M.w M.K M.mg M.base k f fd ps (spD M n F) ∧ ∀ j ≤ df.length, ∃ dvs ds, ConstD M.G (df.drop j) dvs ∧ Vals dvs ds ∧ L2.Binds M.K fd ps ds
/-- what is known of a def at a call -/
structure Fi where
  F : FF
  n : Nat
  ms : List Bool
  df : List D
def Fi.dv (i : Fi) (m : Nat) : List D := i.df.drop (i.df.length + m - i.n)
section
variable {M : Md} {S : Sc} {k : Nat} {W : WX} {X : Cx} {pos p : Pos} {x : Str} {g : FL}
theorem ok_call {i : Fi} {f : Addr} {e : Expr} {es : List Expr} (ok : Cok M S k W X) (hg : S.sc.names.lookup x = some .globalImplicit) (hm : M.mg x = some (.ref f)) (hk : PySem.W.keepIn M.K (.ref f) = true) (hdb : (x == ("__debug__" : Str)) = false)
    (c : Cb M k f i.F i.n i.df) (hs : (e :: es).all noStar = true) (hn : i.df.length + (e :: es).length - i.n ≤ i.df.length) (ha : OkL M X W (e :: es) g) : OkO M X W (.Call (.Name x p) (e :: es) [] pos) (fun η => bindR (g η) fun os η1 => if os.length = (e :: es).length then callR i.n i.ms i.F (i.dv (e :: es).length) os η1 else none) := by
  obtain ⟨P, w, K, mg, base, C⟩ := M
  have emd := ok.md
  simp only [mdOf, Md.mk.injEq, and_true] at emd
  obtain ⟨rfl, rfl, rfl, rfl, rfl⟩ := emd
  obtain ⟨fd, ps, F, hd⟩ := c.ex
  obtain ⟨dvs, ds, h1, h2, h3⟩ := hd _ hn
  obtain ⟨t, ht, hh⟩ := ha
  have hgl : Gl X x := by
    show X.env.scope.names.lookup x = _
    rw [ok.sc]
    exact hg
  rw [List.all_cons, Bool.and_eq_true] at hs
  refine ⟨_, pe_callG F ok.gd ok.room hgl hm hk h3 h2 ok.tk ht hdb (star_cons hs.1) (star_plain hs.2), fun η σ as H Hs res Q hR hf hp => ?_⟩
  rcases bindR_inv hf with ⟨os, η1, e1, e2⟩ | ⟨c, p, η1, e1, rfl⟩
  · refine hh η σ as H Hs _ _ hR e1 fun vs as' H' Hs' r1 l1 x1 => ?_
    by_cases hlen : os.length = (e :: es).length
    · rw [if_pos hlen] at e2
      exact callR_ok h1 r1 l1 x1 e2 hp
    · rw [if_neg hlen] at e2
      cases e2
  · exact hh η σ as H Hs _ _ hR e1 hp

def Val.cls : Val → Option (Nat × List Str)
  | .sh (.obj c fs _) => some (c, fs)
  | .oi c fs _ => some (c, fs)
  | _ => none
def Opv.cls (o : Opv) (η : Env) : Option (Nat × List Str) := match o with
  | .pend x => x.cls
  | .slot i => match η[i]? with
    | some (some x) => x.cls
    | _ => none
theorem Val.cls_ok {G : Gc} {H Hs : Hp} {x : Val} {v : V} {as : List Addr} {c : Nat} {fs : List Str} (h : RepV G H Hs x v as) (s : Le Hs H) (e : x.cls = some (c, fs)) : ∃ a dx vs, v = .ref a ∧ H a = some (.ins (G.C c) dx (fs.zip vs)) ∧ fs.length = vs.length := by
  cases x with
  | sh d =>
    cases d with
    | obj c' fs' xs =>
      simp only [Val.cls, Option.some.injEq, Prod.mk.injEq] at e
      obtain ⟨rfl, rfl⟩ := e
      obtain ⟨_, rd⟩ := RepV.sh_iff.mp h
      obtain ⟨a, dx, vs, e1, e2, e3, _⟩ := rd.top s
      exact ⟨a, dx, vs, e1, e2, e3⟩
    | _ => cases e
  | oi c' fs' xs =>
    simp only [Val.cls, Option.some.injEq, Prod.mk.injEq] at e
    obtain ⟨rfl, rfl⟩ := e
    simp only [RepV] at h
    obtain ⟨a, dx, vs, bs, e1, _, e2, _, e3, _⟩ := h
    exact ⟨a, dx, vs, e1, e2, e3⟩
  | _ => cases e
theorem Opv.cls_ok {G : Gc} {H Hs : Hp} {o : Opv} {η : Env} {σ : L2.St} {v : V} {as : List Addr} {c : Nat} {fs : List Str} (h : Rep G (o.p :: η) (some v :: σ) as H Hs) (l : o.lnk σ v) (e : o.cls η = some (c, fs)) :
    ∃ a dx vs, v = .ref a ∧ H a = some (.ins (G.C c) dx (fs.zip vs)) ∧ fs.length = vs.length := by
  cases o with
  | pend x =>
    obtain ⟨w, σ', a1, a2, e1, rfl, p, q⟩ := h.env
    obtain ⟨e2, rfl⟩ := List.cons.inj e1
    obtain rfl : v = w := Option.some.inj e2
    exact Val.cls_ok p h.le e
  | slot i =>
    simp only [Opv.cls] at e
    cases ei : η[i]? with
    | none =>
      rw [ei] at e
      cases e
    | some y =>
      cases y with
      | none =>
        rw [ei] at e
        cases e
      | some x =>
        rw [ei] at e
        obtain ⟨as1, r1, _⟩ := h.pop
        obtain ⟨u, a1, a2, a3, eu, _, ru, _⟩ := r1.env.at ei
        have l' : σ[i]? = some (some v) := l
        rw [l'] at eu
        have ev : v = u := by simpa using eu
        subst ev
        exact Val.cls_ok ru h.le e
theorem zip_none {m : Str} : ∀ {fs : List Str} {vs : List V}, m ∉ fs → (fs.zip vs).lookup m = none
  | [], _, _ => rfl
  | f :: fs, [], _ => rfl
  | f :: fs, v :: vs, h => by
    simp only [List.mem_cons, not_or] at h
    rw [List.zip_cons_cons, List.lookup_cons, beq_eq_false_iff_ne.mpr h.1]
    exact zip_none h.2
theorem zip_some {m : Str} : ∀ {fs : List Str} {vs : List V} {i : Nat}, fs.idxOf? m = some i → fs.length = vs.length → ∃ v, vs[i]? = some v ∧ (fs.zip vs).lookup m = some v
  | [], _, i, h, _ => by simp at h
  | f :: fs, [], _, _, h => by simp at h
  | f :: fs, v :: vs, i, h, hl => by
    rw [List.idxOf?_cons] at h
    by_cases hf : (f == m) = true
    · rw [if_pos hf] at h
      cases h
      have e : f = m := beq_iff_eq.mp hf
      subst e
      exact ⟨v, rfl, by rw [List.zip_cons_cons, List.lookup_cons, beq_self_eq_true]⟩
    · rw [if_neg hf] at h
      cases hi : fs.idxOf? m with
      | none =>
        rw [hi] at h
        cases h
      | some j =>
        rw [hi] at h
        cases h
        obtain ⟨w, h1, h2⟩ := zip_some hi (by simpa using hl)
        refine ⟨w, by simpa using h1, ?_⟩
        have ne : (m == f) = false := beq_eq_false_iff_ne.mpr fun z => hf (by rw [z]; exact beq_self_eq_true f)
        rw [List.zip_cons_cons, List.lookup_cons, ne]
        exact h2

theorem pe_methW0 {o : Expr} {m : Str} {apos : Pos} {ta : TE} (he : PE X o ta) (gd : X.A.guards = some []) (tk : Takes X W) (hb : baseOk o = true) (hl : (apos.endLine == pos.line) = true) :
    PE X (.Call (.Attribute o m apos) [] [] pos) (fun σ H Q => ta σ H fun x H1 => ∃ a C dx fs f fd ps j sp dvs ds, x = .ref a ∧ H1 a = some (.ins C dx fs) ∧ Cls X.K C ∧ L2.Meth X.K C m f ∧ fs.lookup m = none ∧
      FnG X.prog X.w X.K X.mg X.base j f fd ps sp ∧ Room j X.A ∧ L2.Binds X.K fd ps ds ∧ Vals dvs ds ∧ sp (x :: dvs) H1 Q (WE W σ)) := by
  refine ⟨fun pins s σ H Q I h => ?_⟩
  refine PySem.W.methodCall_KW (pl := plainOf o X.env) (thn (he.run pins s σ H _ I h) fun u s1 ⟨x, H1, I1, rx, a, C, dx, fs, f, fd, ps, j, sp, dvs, ds, ex, ea, cl, mt, lk, F, hr, hbi, hd, q⟩ => ?_) (mcall_form hb rfl (by decide) hl)
  subst ex
  obtain rfl : u = Value.ref a := rx
  refine getmeth_ok I1 ea cl mt lk ?_
  refine PySem.W.callWith_K0 (first := [.ref a]) I1.kIn mt.kp ?_
  exact runG (us := [.ref a]) (vs := [.ref a]) F gd hr hbi hd tk I1 (.cons rfl .nil) q
/-- what a class lends as a method -/
def MtOk (M : Md) (k : Nat) (m : Str) (na : Nat) (mt : Nat → Option Fi) : Prop := ∀ c i, mt c = some i → ∃ f, Cls M.K (M.C c) ∧ L2.Meth M.K (M.C c) m f ∧ Cb M k f i.F i.n i.df ∧ i.df.length + (na + 1) - i.n ≤ i.df.length
def fMeth (mt : Nat → Option Fi) (m : Str) (na : Nat) (fo : FO) (g : FL) : FO := fun η => bindR (fo η) fun o η1 => match o.cls η1 with
  | some (c, fs) => if m ∈ fs then none else (match mt c with
    | some i => bindR (g η1) fun os η2 => if os.length = na then callR i.n i.ms i.F (i.dv (na + 1)) (o :: os) η2 else none
    | none => none)
  | none => none
theorem ok_meth0 {mt : Nat → Option Fi} {o : Expr} {fo : FO} {m : Str} {apos : Pos} (ok : Cok M S k W X) (hmt : MtOk M k m 0 mt) (ho : OkO M X W o fo)
    (hb : baseOk o = true) (hl : (apos.endLine == pos.line) = true) : OkO M X W (.Call (.Attribute o m apos) [] [] pos) (fMeth mt m 0 fo fNil) := by
  obtain ⟨P, w, K, mg, base, C⟩ := M
  have emd := ok.md
  simp only [mdOf, Md.mk.injEq, and_true] at emd
  obtain ⟨rfl, rfl, rfl, rfl, rfl⟩ := emd
  obtain ⟨ta, hta, hha⟩ := ho
  refine ⟨_, pe_methW0 hta ok.gd ok.tk hb hl, fun η σ as H Hs res Q hR hf hp => ?_⟩
  rcases bindR_inv hf with ⟨o1, η1, e1, e2⟩ | ⟨c, p, η1, e1, rfl⟩
  · refine hha η σ as H Hs _ _ hR e1 fun v as' H' Hs' r1 l1 x1 => ?_
    cases ec : o1.cls η1 with
    | none =>
      simp only [ec] at e2
      cases e2
    | some cf =>
      obtain ⟨c, fs⟩ := cf
      simp only [ec] at e2
      by_cases hm : m ∈ fs
      · rw [if_pos hm] at e2
        cases e2
      · rw [if_neg hm] at e2
        cases em : mt c with
        | none =>
          rw [em] at e2
          cases e2
        | some i =>
          rw [em] at e2
          simp only at e2
          obtain ⟨f, cl, me, cb, hle⟩ := hmt c i em
          obtain ⟨fd, ps, F, hd⟩ := cb.ex
          obtain ⟨dvs, ds, h1, h2, h3⟩ := hd _ hle
          obtain ⟨a, dx, vs0, rfl, ea, _⟩ := Opv.cls_ok r1 l1 ec
          refine ⟨a, C c, dx, _, f, fd, ps, k, _, dvs, ds, rfl, ea, cl, me, zip_none hm, F, ok.room, h3, h2, ?_⟩
          have e5 : callR i.n i.ms i.F (i.dv (0 + 1)) [o1] η1 = some res := e2
          exact callR_ok h1 (os := [o1]) (vs := [.ref a]) r1 ⟨_, _, rfl, l1, rfl⟩ x1 e5 hp
  · exact hha η σ as H Hs _ _ hR e1 hp

theorem pass_no {X : Cx} : Passes (L2.CX X.prog X.w) X.nox (fun _ _ _ => False) := fun _ _ _ _ _ _ _ ⟨_, _, _, _, _, _, _, _, _, _, _, _, h⟩ => h.elim
theorem pe_attrW {e : Expr} {f : Str} {ta : TE} (he : PE X e ta) (gd : X.A.guards = some []) (hb : baseOk e = true) : PE X (.Attribute e f pos) (fun σ H Q => ta σ H fun x H1 => ∃ a C dx fs, x = .ref a ∧ H1 a = some (.ins C dx fs) ∧ Cls X.K C ∧
    ((NoAttr X.K C f ∧ ∃ v, fs.lookup f = some v ∧ Q v H1) ∨ ∃ p g fd ps j sp dvs ds, PropOf X.K C f p g ∧ FnG X.prog X.w X.K X.mg X.base j g fd ps sp ∧ Room (j + 1) X.A ∧ L2.Binds X.K fd ps ds ∧ Vals dvs ds ∧ sp (.ref a :: dvs) H1 Q (fun _ _ _ => False))) := by
  refine ⟨fun pins s σ H Q I h => ?_⟩
  refine attr_of (base_ok hb) (thn (he.run pins s σ H _ I h) fun u s1 ⟨x, H1, I1, rx, a, C, dx, fs, ex, ea, cl, q⟩ => ?_)
  subst ex
  obtain rfl : u = Value.ref a := rx
  rcases q with ⟨n, v, l, q⟩ | ⟨p, g, fd, ps, j, sp, dvs, ds, hp, F, hr, hbi, hd, q⟩
  · exact getattr_ok I1 ea cl n l fun u' s2 I2 ru => ⟨v, H1, I2, ru, q⟩
  · exact propG I1 ea cl hp F gd hr hbi hd pass_no q
def fieldG (f : Str) : List D → Option Val
  | [.obj _ fs xs] => (fs.idxOf? f).bind fun i => (xs[i]?).map .sh
  | _ => none
def okOnly (r : RO Opv) : RO Opv := match r with
  | some (.ok o η) => some (.ok o η)
  | _ => none
def fAttr (fc : Nat → Bool) (pt : Nat → Option Fi) (f : Str) (fo : FO) : FO := fun η => bindR (fo η) fun o η1 => match o.cls η1 with
  | some (c, fs) => if f ∈ fs then (if fc c then appR (fieldG f) [o] η1 else none) else (match pt c with
    | some i => okOnly (callR i.n i.ms i.F (i.dv 1) [o] η1)
    | none => none)
  | none => none
def FcOk (M : Md) (f : Str) (fc : Nat → Bool) : Prop := ∀ c, fc c = true → Cls M.K (M.C c) ∧ NoAttr M.K (M.C c) f
def PtOk (M : Md) (k : Nat) (f : Str) (pt : Nat → Option Fi) : Prop := ∀ c i, pt c = some i → ∃ p g j, k = j + 1 ∧ Cls M.K (M.C c) ∧ PropOf M.K (M.C c) f p g ∧ Cb M j g i.F i.n i.df ∧ i.df.length + 1 - i.n ≤ i.df.length
theorem ok_attr {fc : Nat → Bool} {pt : Nat → Option Fi} {e : Expr} {f : Str} {fo : FO} (ok : Cok M S k W X) (hfc : FcOk M f fc) (hpt : PtOk M k f pt) (ho : OkO M X W e fo) (hb : baseOk e = true) : OkO M X W (.Attribute e f pos) (fAttr fc pt f fo) := by
  obtain ⟨P, w, K, mg, base, C⟩ := M
  have emd := ok.md
  simp only [mdOf, Md.mk.injEq, and_true] at emd
  obtain ⟨rfl, rfl, rfl, rfl, rfl⟩ := emd
  obtain ⟨ta, hta, hha⟩ := ho
  refine ⟨_, pe_attrW hta ok.gd hb, fun η σ as H Hs res Q hR hf hp => ?_⟩
  rcases bindR_inv hf with ⟨o1, η1, e1, e2⟩ | ⟨c, p, η1, e1, rfl⟩
  · refine hha η σ as H Hs _ _ hR e1 fun v as' H' Hs' r1 l1 x1 => ?_
    cases ec : o1.cls η1 with
    | none =>
      simp only [ec] at e2
      cases e2
    | some cf =>
      obtain ⟨c, fs⟩ := cf
      simp only [ec] at e2
      obtain ⟨a, dx, vs0, rfl, ea, l0⟩ := Opv.cls_ok r1 l1 ec
      by_cases hm : f ∈ fs
      · rw [if_pos hm] at e2
        by_cases hc : fc c = true
        · rw [if_pos hc] at e2
          obtain ⟨cl, na⟩ := hfc c hc
          refine ⟨a, C c, dx, _, rfl, ea, cl, .inl ⟨na, ?_⟩⟩
          -- the field, by the data
          refine app_ok (r := fun vs H Q => ∀ x, vs = [x] → ∀ a, x = .ref a → ∀ fs', H a = some (.ins (C c) dx fs') → ∃ v, fs'.lookup f = some v ∧ Q v H) (fun ds x vs H Q' Q2 hg hle ht hq => ?_) (os := [o1]) (vs := [.ref a]) r1 ⟨_, _, rfl, l1, rfl⟩ x1 e2 hp _ rfl a rfl _ ea
          intro y ey b eb fs' efs
          subst ey
          subst eb
          cases ds with
          | nil => cases hg
          | cons d ds =>
            cases d with
            | obj c2 fs2 xs2 =>
              cases ds with
              | nil =>
                simp only [fieldG, Option.bind_eq_some_iff, Option.map_eq_some_iff] at hg
                obtain ⟨i, hi, z, hz, rfl⟩ := hg
                obtain ⟨v1, ws, e7, ht1, _⟩ := ht
                obtain ⟨e8, rfl⟩ := List.cons.inj e7
                obtain ⟨a2, dx2, vs2, e9, e10, l2, rd⟩ := ht1
                rw [← e8] at e9
                obtain rfl := V.ref.inj e9
                rw [e10] at efs
                have e11 := Option.some.inj efs
                simp only [HO.ins.injEq] at e11
                obtain ⟨_, _, rfl⟩ := e11
                obtain ⟨v2, h5, h6⟩ := zip_some hi l2
                obtain ⟨v3, h7, h8⟩ := rd.get hz
                rw [h5] at h7
                obtain rfl := Option.some.inj h7
                exact ⟨v2, h6, hq.sh h8⟩
              | cons _ _ => cases hg
            | _ => cases hg
        · rw [if_neg hc] at e2
          cases e2
      · rw [if_neg hm] at e2
        cases em : pt c with
        | none =>
          rw [em] at e2
          cases e2
        | some i =>
          rw [em] at e2
          simp only at e2
          obtain ⟨p, g, j, rfl, cl, po, cb, hle⟩ := hpt c i em
          obtain ⟨fd, ps, F, hd⟩ := cb.ex
          obtain ⟨dvs, ds, h1, h2, h3⟩ := hd _ hle
          refine ⟨a, C c, dx, _, rfl, ea, cl, .inr ⟨p, g, fd, ps, j, _, dvs, ds, po, F, ok.room, h3, h2, ?_⟩⟩
          cases e5 : callR i.n i.ms i.F (i.dv 1) [o1] η1 with
          | none =>
            rw [e5] at e2
            cases e2
          | some rr =>
            rw [e5] at e2
            cases rr with
            | exc c' p' η' => cases e2
            | ok o2 η2 =>
              obtain rfl : res = .ok o2 η2 := (Option.some.inj e2).symm
              exact callR_ok (W := fun _ _ _ _ => False) h1 (os := [o1]) (vs := [.ref a]) r1 ⟨_, _, rfl, l1, rfl⟩ x1 e5 hp
  · exact hha η σ as H Hs _ _ hR e1 hp
end
end Wp
end
section
set_option Elab.async false
set_option linter.all false
set_option maxRecDepth 100000
namespace Wp
open PySem PySem.Spec PyProof.Rows L2
section
variable {M : Md} {S : Sc} {k : Nat} {W : WX} {X : Cx} {pos p : Pos} {x : Str} {g : FL}

theorem run_makeW {C f : Addr} {fd : FuncData} {ps : List Str} {j : Nat} {sp : Sp} {dvs : List V} {ds : List Value} {pins : List (Addr × Obj)} {σ : L2.St} {H : Hp} {s : Shared} {Q : VK} {us : List Value} {vs : List V} (mk : Mk X.K C f)
    (F : FnG X.prog X.w X.K X.mg X.base j f fd ps sp) (gd : X.A.guards = some []) (hr : Room (j + 1) X.A) (hb : L2.Binds X.K fd ps ds) (hd : Vals dvs ds) (tk : Takes X W) (I : Inv X pins σ H s) (r : Vals vs us)
    (h : ∀ x dx, H x = none → H dx = none → dx ≠ x → sp (.ref x :: (vs ++ dvs)) (upd (upd H dx (.own x)) x (.ins C dx [])) (fun v H2 => v = .non ∧ Q (.ref x) H2) (WE W σ)) :
    wpAny (model X.prog X.w) X.A (call (.ref C) us) (EP X pins σ Q) X.xe s := by
  have new1 := I.hok.fresh (Nat.le_succ s.heap.objs.size)
  have new2 := I.hok.fresh (Nat.le_refl s.heap.objs.size)
  have hq := h (s.heap.objs.size + 1) s.heap.objs.size new1 new2 (Nat.ne_of_lt (Nat.lt_succ_self _))
  have I2 := Inv.made (C := C) I
  have r2 : Vals (V.ref (s.heap.objs.size + 1) :: (vs ++ dvs)) (Value.ref (s.heap.objs.size + 1) :: (us ++ ds)) := .cons rfl (r.append hd)
  have hl : ((Value.ref (s.heap.objs.size + 1) :: us) ++ ds).length = ps.length := r2.length.symm.trans (F.len _ _ _ _ hq)
  have bt := hb _ (Value.ref (s.heap.objs.size + 1) :: us) I2.kIn hl
  have run := F.run _ X.stack _ _ ⟨Value.ref (s.heap.objs.size + 1) :: us, []⟩ _ _ _ (WE W σ) (by show pushGuards (Code.builtin "type.__call__" ⟨.ref C :: us, []⟩).guards X.A.guards = some []; rw [gd, show (Code.builtin "type.__call__" ⟨.ref C :: us, []⟩).guards = [] from rfl]; rfl) (hr.make C us []) (I2.env0.make C us []) bt r2 hq
  refine wpAny_call (make_map (f := f) I.kIn mk.makes mk.init (beq_iff_eq.mp mk.fn) (codeAny_mono run fun res s' hq' => ?_))
  cases res with
  | error e => exact passAt tk σ pins _ _ e s' I2 hq'
  | ok fl =>
    cases fl with
    | ret u =>
      obtain ⟨v, H', I3, rv, ev, q3⟩ := I2.after hq'
      subst ev
      exact ⟨rv, ⟨V.ref (s.heap.objs.size + 1), H', I3, rfl, q3⟩⟩
    | _ => exact False.elim hq'
theorem pe_makeW {C f : Addr} {fd : FuncData} {ps : List Str} {j : Nat} {sp : Sp} {dvs : List V} {ds : List Value} {e : Expr} {es : List Expr} {t : TA} (mk : Mk X.K C f) (F : FnG X.prog X.w X.K X.mg X.base j f fd ps sp) (gd : X.A.guards = some []) (hr : Room (j + 1) X.A)
    (hg : Gl X x) (hm : X.mg x = some (.ref C)) (hb : L2.Binds X.K fd ps ds) (hd : Vals dvs ds) (tk : Takes X W) (ha : PA X (e :: es) t) (hdb : (x == ("__debug__" : Str)) = false) (hs : (e :: es).all noStar = true) :
    PE X (.Call (.Name x p) (e :: es) [] pos) (fun σ H Q => t σ H fun vs H1 => ∀ y dy, H1 y = none → H1 dy = none → dy ≠ y → sp (.ref y :: (vs ++ dvs)) (upd (upd H1 dy (.own y)) y (.ins C dy [])) (fun v H2 => v = .non ∧ Q (.ref y) H2) (WE W σ)) := by
  refine ⟨fun pins s σ H Q I h => ?_⟩
  rw [List.all_cons, Bool.and_eq_true] at hs
  refine wpAny_Call_Name_kw (ld_glob I hg hm ?_ hdb)
  refine PySem.W.callWith_K (h₀ := X.base) I.ok.mod.kin mk.kp (thn (ha.run pos pins s σ H _ I h) fun us s1 ⟨vs, H1, I1, r, q⟩ => ⟨I1.kIn, ?_⟩) (star_cons hs.1) (star_plain hs.2)
  exact run_makeW mk F gd hr hb hd tk I1 r q
def fMake (c na : Nat) (i : Fi) (g : FL) : FO := fun η => bindR (g η) fun os η1 => if os.length = na then makeR c i.n i.ms i.F (i.dv (na + 1)) os η1 else none
theorem ok_make {i : Fi} {c : Nat} {f : Addr} {e : Expr} {es : List Expr} {j : Nat} (ok : Cok M S (j + 1) W X) (hg : S.sc.names.lookup x = some .globalImplicit) (hm : M.mg x = some (.ref (M.C c))) (mk : Mk M.K (M.C c) f) (hdb : (x == ("__debug__" : Str)) = false)
    (cb : Cb M j f i.F i.n i.df) (hs : (e :: es).all noStar = true) (hn : i.df.length + ((e :: es).length + 1) - i.n ≤ i.df.length) (ha : OkL M X W (e :: es) g) : OkO M X W (.Call (.Name x p) (e :: es) [] pos) (fMake c (e :: es).length i g) := by
  obtain ⟨P, w, K, mg, base, C⟩ := M
  have emd := ok.md
  simp only [mdOf, Md.mk.injEq, and_true] at emd
  obtain ⟨rfl, rfl, rfl, rfl, rfl⟩ := emd
  obtain ⟨fd, ps, F, hd⟩ := cb.ex
  obtain ⟨dvs, ds, h1, h2, h3⟩ := hd _ hn
  obtain ⟨t, ht, hh⟩ := ha
  have hgl : Gl X x := by
    show X.env.scope.names.lookup x = _
    rw [ok.sc]
    exact hg
  refine ⟨_, pe_makeW mk F ok.gd ok.room hgl hm h3 h2 ok.tk ht hdb hs, fun η σ as H Hs res Q hR hf hp => ?_⟩
  rcases bindR_inv hf with ⟨os, η1, e1, e2⟩ | ⟨c, p, η1, e1, rfl⟩
  · refine hh η σ as H Hs _ _ hR e1 fun vs as' H' Hs' r1 l1 x1 => ?_
    by_cases hlen : os.length = (e :: es).length
    · rw [if_pos hlen] at e2
      exact fun y dy ny ndy ney => makeR_ok h1 r1 l1 x1 e2 hp y dy ny ndy ney
    · rw [if_neg hlen] at e2
      cases e2
  · exact hh η σ as H Hs _ _ hR e1 hp

abbrev FT := Env → RO Bool
def PostT (G : Gc) (W : WX) (σ : L2.St) (as : List Addr) (H Hs : Hp) (Q : Bool → Hp → Prop) : Res Bool → Prop
  | .ok b η' => ∀ as' H' Hs', Rep G η' σ as' H' Hs' → Ext as H Hs as' H' Hs' → Q b H'
  | .exc c p η' => PostX G W σ as H Hs c p η'
def OkT (M : Md) (X : Cx) (W : WX) (e : Expr) (f : FT) : Prop :=
  ∃ t, PT X e t ∧ ∀ η σ as H Hs r Q, Rep M.G η σ as H Hs → f η = some r → PostT M.G W σ as H Hs Q r → t σ H Q
/-- a value's truth -/
def truthD : D → Option Bool
  | .bl b => some b
  | .non => some false
  | .int i => some (i != 0)
  | .str x => if x.length ≤ sizeLine then some ((x.length : Int) != 0) else none
  | .lst xs => some (!xs.isEmpty)
  | .tup xs => some (!xs.isEmpty)
  | _ => none
def truR (o : Opv) (η : Env) : RO Bool := match prepAll [o] η with
  | some ([d], η1) => (match truthD d with
    | some b => okR b η1
    | none => none)
  | _ => none
theorem isEmpty_ds {G : Gc} {H : Hp} {ds : List D} {vs : List V} (h : RepDs G H ds vs) : (!ds.isEmpty) = !vs.isEmpty := by
  cases ds with
  | nil =>
    rw [RepDs.nil_iff] at h
    rw [h]
    rfl
  | cons d ds =>
    obtain ⟨v, ws, rfl, _⟩ := h.uncons
    rfl
theorem truthD_ok {G : Gc} {H Hs : Hp} {d : D} {v : V} {b : Bool} (h : RepT G H Hs d v) (e : truthD d = some b) : TruV G.K v H b := by
  cases d with
  | non =>
    obtain rfl : v = .non := h
    exact (Option.some.inj e).symm
  | bl c =>
    obtain rfl : v = .bl c := h
    exact (Option.some.inj e).symm
  | int i =>
    obtain rfl : v = .int i := h
    exact (Option.some.inj e).symm
  | str z =>
    obtain rfl : v = .str z := h
    simp only [truthD] at e
    by_cases hz : z.length ≤ sizeLine
    · rw [if_pos hz] at e
      exact ⟨hz, (Option.some.inj e).symm⟩
    · rw [if_neg hz] at e
      cases e
  | lst xs =>
    obtain ⟨a, vs, rfl, q, r⟩ := h
    exact .inl ⟨vs, q, by rw [← isEmpty_ds r]; exact (Option.some.inj e).symm⟩
  | tup xs =>
    obtain ⟨a, vs, rfl, q, r⟩ := h
    exact .inr (.inl ⟨vs, SqT.of q, by rw [← isEmpty_ds r]; exact (Option.some.inj e).symm⟩)
  | _ => cases e
def fTru (f : FO) : FT := fun η => bindR (f η) truR
/-- expressions whose test is their value's -/
def plainTest : Expr → Bool
  | .Name .. => true
  | .Call .. => true
  | .Attribute .. => true
  | .Subscript .. => true
  | .Constant .. => true
  | .BinOp .. => true
  | .List .. => true
  | .ListComp .. => true
  | _ => false
theorem plain_test {e : Expr} {env : PySem.Env} (h : plainTest e = true) : ∀ whole, isTrue e env whole = (do let v ← whole; standAt e.pos; holding [v] (truthy v)) := by
  cases e <;> first | (intro _; rfl) | cases h
theorem truR_inv {o : Opv} {η : Env} {r : Res Bool} (h : truR o η = some r) : ∃ d η1 b, prepAll [o] η = some ([d], η1) ∧ truthD d = some b ∧ r = .ok b η1 := by
  unfold truR at h
  cases e : prepAll [o] η with
  | none =>
    rw [e] at h
    cases h
  | some p =>
    obtain ⟨ds, η1⟩ := p
    rw [e] at h
    cases ds with
    | nil => cases h
    | cons d ds =>
      cases ds with
      | cons _ _ => cases h
      | nil =>
        simp only at h
        cases et : truthD d with
        | none =>
          rw [et] at h
          cases h
        | some b =>
          rw [et] at h
          exact ⟨d, η1, b, rfl, et, (Option.some.inj h).symm⟩
theorem okT_tru {e : Expr} {f : FO} (ok : Cok M S k W X) (ho : OkO M X W e f) (hp : plainTest e = true) : OkT M X W e (fTru f) := by
  obtain ⟨P, w, K, mg, base, C⟩ := M
  have emd := ok.md
  simp only [mdOf, Md.mk.injEq, and_true] at emd
  obtain ⟨rfl, rfl, rfl, rfl, rfl⟩ := emd
  obtain ⟨t, ht, hh⟩ := ho
  refine ⟨_, pt_truth ht (plain_test hp), fun η σ as H Hs res Q hR hf hpo => ?_⟩
  rcases bindR_inv hf with ⟨o, η1, e1, e2⟩ | ⟨c, p, η1, e1, rfl⟩
  · refine hh η σ as H Hs _ _ hR e1 fun v as' H' Hs' r1 l1 x1 => ?_
    obtain ⟨d, η2, b, e3, e4, rfl⟩ := truR_inv e2
    obtain ⟨as2, Hs2, r2, x2, t2⟩ := prep_ok (os := [o]) (vs := [v]) r1 ⟨_, _, rfl, l1, rfl⟩ e3
    obtain ⟨w2, ws, e5, t3, _⟩ := t2
    obtain ⟨rfl, rfl⟩ := List.cons.inj e5
    exact ⟨b, truthD_ok t3 e4, hpo as2 H' Hs2 r2 (x1.trans x2)⟩
  · exact hh η σ as H Hs _ _ hR e1 hpo
/-- a comparison that gives a truth value -/
def blOf (o : Opv) (η : Env) : RO Bool := match o with
  | .pend (.sh (.bl b)) => okR b η
  | _ => none
def fBl (f : FO) : FT := fun η => bindR (f η) blOf
theorem okT_of {e : Expr} {f : FO} (he : ∃ t, PE X e t ∧ PT X e (tTest t) ∧ ∀ η σ as H Hs r Q, Rep M.G η σ as H Hs → f η = some r → PostO M.G W σ as H Hs Q r → t σ H Q) : OkT M X W e (fBl f) := by
  obtain ⟨t, _, ht, hh⟩ := he
  refine ⟨_, ht, fun η σ as H Hs res Q hR hf hpo => ?_⟩
  rcases bindR_inv hf with ⟨o, η1, e1, e2⟩ | ⟨c, p, η1, e1, rfl⟩
  · refine hh η σ as H Hs _ _ hR e1 fun v as' H' Hs' r1 l1 x1 => ?_
    cases o with
    | slot i => cases e2
    | pend y =>
      cases y with
      | sh d =>
        cases d with
        | bl b =>
          obtain rfl : res = .ok b η1 := (Option.some.inj e2).symm
          obtain ⟨w, σ', a1, a2, e5, rfl, p1, q1⟩ := r1.env
          obtain ⟨e6, rfl⟩ := List.cons.inj e5
          obtain rfl : v = w := Option.some.inj e6
          obtain ⟨rfl, rd⟩ := RepV.sh_iff.mp p1
          simp only [RepD] at rd
          obtain ⟨as2, r2, m2⟩ := r1.pop
          exact ⟨b, rd, hpo as2 H' Hs' r2 (x1.less m2)⟩
        | _ => cases e2
      | _ => cases e2
  · exact hh η σ as H Hs _ _ hR e1 hpo

variable {a b : Expr} {rest : List Expr} {fa fb : FT}
def fAndT (fa fb : FT) : FT := fun η => bindR (fa η) fun c η1 => if c then fb η1 else okR false η1
def fOrT (fa fb : FT) : FT := fun η => bindR (fa η) fun c η1 => if c then okR true η1 else fb η1
def fNotT (fa : FT) : FT := fun η => bindR (fa η) fun c η1 => okR (!c) η1
/-- a test whatever its whole is -/
def OkW (M : Md) (X : Cx) (W : WX) (e : Expr) (f : FT) : Prop :=
  ∃ t, PW X e t ∧ ∀ η σ as H Hs r Q, Rep M.G η σ as H Hs → f η = some r → PostT M.G W σ as H Hs Q r → t σ H Q
theorem OkW.t {e : Expr} {f : FT} (h : OkW M X W e f) : OkT M X W e f := let ⟨t, ht, hh⟩ := h; ⟨t, ht.pt, hh⟩
theorem okW_and1 (ha : OkT M X W a fa) : OkW M X W (.BoolOp .And [a] pos) fa := let ⟨t, ht, hh⟩ := ha; ⟨t, pw_and1 ht, hh⟩
theorem okW_or1 (ha : OkT M X W a fa) : OkW M X W (.BoolOp .Or [a] pos) fa := let ⟨t, ht, hh⟩ := ha; ⟨t, pw_or1 ht, hh⟩
theorem okW_and (ha : OkT M X W a fa) (hb : OkW M X W (.BoolOp .And (b :: rest) pos) fb) : OkW M X W (.BoolOp .And (a :: b :: rest) pos) (fAndT fa fb) := by
  obtain ⟨ta, hta, hha⟩ := ha
  obtain ⟨tb, htb, hhb⟩ := hb
  refine ⟨_, pw_and hta htb, fun η σ as H Hs res Q hR hf hp => ?_⟩
  rcases bindR_inv hf with ⟨c, η1, e1, e2⟩ | ⟨c, p, η1, e1, rfl⟩
  · refine hha η σ as H Hs _ _ hR e1 fun as' H' Hs' r1 x1 => ?_
    cases c with
    | true =>
      show tb σ H' Q
      refine hhb η1 σ as' H' Hs' res Q r1 e2 ?_
      cases res with
      | ok b2 η2 => exact fun as2 H2 Hs2 r2 x2 => hp as2 H2 Hs2 r2 (x1.trans x2)
      | exc c p η2 => exact fun v dx as2 H2 Hs2 r2 hX x2 => hp v dx as2 H2 Hs2 r2 hX (x1.trans x2)
    | false =>
      obtain rfl : res = .ok false η1 := (Option.some.inj e2).symm
      show Q false H'
      exact hp as' H' Hs' r1 x1
  · exact hha η σ as H Hs _ _ hR e1 hp
theorem okW_or (ha : OkT M X W a fa) (hb : OkW M X W (.BoolOp .Or (b :: rest) pos) fb) : OkW M X W (.BoolOp .Or (a :: b :: rest) pos) (fOrT fa fb) := by
  obtain ⟨ta, hta, hha⟩ := ha
  obtain ⟨tb, htb, hhb⟩ := hb
  refine ⟨_, pw_or hta htb, fun η σ as H Hs res Q hR hf hp => ?_⟩
  rcases bindR_inv hf with ⟨c, η1, e1, e2⟩ | ⟨c, p, η1, e1, rfl⟩
  · refine hha η σ as H Hs _ _ hR e1 fun as' H' Hs' r1 x1 => ?_
    cases c with
    | false =>
      show tb σ H' Q
      refine hhb η1 σ as' H' Hs' res Q r1 e2 ?_
      cases res with
      | ok b2 η2 => exact fun as2 H2 Hs2 r2 x2 => hp as2 H2 Hs2 r2 (x1.trans x2)
      | exc c p η2 => exact fun v dx as2 H2 Hs2 r2 hX x2 => hp v dx as2 H2 Hs2 r2 hX (x1.trans x2)
    | true =>
      obtain rfl : res = .ok true η1 := (Option.some.inj e2).symm
      show Q true H'
      exact hp as' H' Hs' r1 x1
  · exact hha η σ as H Hs _ _ hR e1 hp
theorem okT_not (ha : OkT M X W a fa) : OkT M X W (.UnaryOp .Not a pos) (fNotT fa) := by
  obtain ⟨ta, hta, hha⟩ := ha
  refine ⟨_, pt_not hta, fun η σ as H Hs res Q hR hf hp => ?_⟩
  rcases bindR_inv hf with ⟨c, η1, e1, e2⟩ | ⟨c, p, η1, e1, rfl⟩
  · refine hha η σ as H Hs _ _ hR e1 fun as' H' Hs' r1 x1 => ?_
    obtain rfl : res = .ok (!c) η1 := (Option.some.inj e2).symm
    exact hp as' H' Hs' r1 x1
  · exact hha η σ as H Hs _ _ hR e1 hp

theorem PostO.from {G : Gc} {σ : L2.St} {as as1 : List Addr} {H Hs H1 Hs1 : Hp} {Q : VK} {r : Res Opv} (x : Ext as H Hs as1 H1 Hs1) (h : PostO G W σ as H Hs Q r) : PostO G W σ as1 H1 Hs1 Q r := by
  cases r with
  | ok o η' => exact fun v as2 H2 Hs2 r2 l2 x2 => h v as2 H2 Hs2 r2 l2 (x.trans x2)
  | exc c p η' => exact fun v dx as2 H2 Hs2 r2 hX x2 => h v dx as2 H2 Hs2 r2 hX (x.trans x2)
variable {c : Expr} {ga gb : FO} {fc : FT}
def fIte (fc : FT) (ga gb : FO) : FO := fun η => bindR (fc η) fun t η1 => if t then ga η1 else gb η1
theorem ok_ite (hc : OkT M X W c fc) (ha : OkO M X W a ga) (hb : OkO M X W b gb) : OkO M X W (.IfExp c a b pos) (fIte fc ga gb) := by
  obtain ⟨tc, htc, hhc⟩ := hc
  obtain ⟨ta, hta, hha⟩ := ha
  obtain ⟨tb, htb, hhb⟩ := hb
  refine ⟨_, pe_ifExp htc hta htb, fun η σ as H Hs res Q hR hf hp => ?_⟩
  rcases bindR_inv hf with ⟨t, η1, e1, e2⟩ | ⟨c, p, η1, e1, rfl⟩
  · refine hhc η σ as H Hs _ _ hR e1 fun as' H' Hs' r1 x1 => ?_
    cases t with
    | true => exact hha η1 σ as' H' Hs' res Q r1 e2 (hp.from x1)
    | false => exact hhb η1 σ as' H' Hs' res Q r1 e2 (hp.from x1)
  · exact hhc η σ as H Hs _ _ hR e1 hp
/-- the value must be a truth value -/
def fAndV (ga gb : FO) : FO := fun η => bindR (ga η) fun o η1 => bindR (blOf o η1) fun t η2 => if t then gb η2 else okR (.pend (.sh (.bl false))) η2
def fOrV (ga gb : FO) : FO := fun η => bindR (ga η) fun o η1 => bindR (blOf o η1) fun t η2 => if t then okR (.pend (.sh (.bl true))) η2 else gb η2
def fNotV (ga : FO) : FO := fun η => bindR (ga η) fun o η1 => bindR (blOf o η1) fun t η2 => okR (.pend (.sh (.bl (!t)))) η2
theorem blOf_inv {G : Gc} {o : Opv} {η : Env} {σ : L2.St} {v : V} {as : List Addr} {H Hs : Hp} {r : Res Bool} (h : blOf o η = some r) (hr : Rep G (o.p :: η) (some v :: σ) as H Hs) : ∃ t as', r = .ok t η ∧ v = .bl t ∧ Rep G η σ as' H Hs ∧ (∀ a ∈ as', a ∈ as) := by
  cases o with
  | slot i => cases h
  | pend y =>
    cases y with
    | sh d =>
      cases d with
      | bl t =>
        obtain rfl : r = .ok t η := (Option.some.inj h).symm
        obtain ⟨w, σ', a1, a2, e5, rfl, p1, q1⟩ := hr.env
        obtain ⟨e6, rfl⟩ := List.cons.inj e5
        obtain rfl : v = w := Option.some.inj e6
        obtain ⟨rfl, rd⟩ := RepV.sh_iff.mp p1
        simp only [RepD] at rd
        obtain ⟨as2, r2, m2⟩ := hr.pop
        exact ⟨t, as2, rfl, rd, r2, m2⟩
      | _ => cases h
    | _ => cases h
theorem ok_one {op : BoolOp} (ha : OkO M X W a ga) : OkO M X W (.BoolOp op [a] pos) ga := let ⟨t, ht, hh⟩ := ha; ⟨t, pe_one ht, hh⟩
theorem ok_and (ha : OkO M X W a ga) (hb : OkO M X W (.BoolOp .And (b :: rest) pos) gb) : OkO M X W (.BoolOp .And (a :: b :: rest) pos) (fAndV ga gb) := by
  obtain ⟨ta, hta, hha⟩ := ha
  obtain ⟨tb, htb, hhb⟩ := hb
  refine ⟨_, pe_and hta htb, fun η σ as H Hs res Q hR hf hp => ?_⟩
  rcases bindR_inv hf with ⟨o, η1, e1, e2⟩ | ⟨c, p, η1, e1, rfl⟩
  · refine hha η σ as H Hs _ _ hR e1 fun v as' H' Hs' r1 l1 x1 => ?_
    rcases bindR_inv e2 with ⟨t, η2, e3, e4⟩ | ⟨c, p, η2, e3, rfl⟩
    · obtain ⟨t', as2, e5, rfl, r2, m2⟩ := blOf_inv e3 r1
      injection e5 with e6 e7
      subst e6 e7
      refine ⟨t, rfl, ?_⟩
      cases t with
      | true =>
        show tb σ H' Q
        exact hhb η2 σ as2 H' Hs' res Q r2 e4 (hp.from (x1.less m2))
      | false =>
        obtain rfl : res = .ok (.pend (.sh (.bl false))) η2 := (Option.some.inj e4).symm
        show Q (.bl false) H'
        exact hp _ as2 H' Hs' (r2.push_sh (by simp only [RepD])) trivial (x1.less m2)
    · obtain ⟨t', as2, e5, rfl, r2, m2⟩ := blOf_inv e3 r1
      cases e5
  · exact hha η σ as H Hs _ _ hR e1 hp
theorem ok_not (ha : OkO M X W a ga) : OkO M X W (.UnaryOp .Not a pos) (fNotV ga) := by
  obtain ⟨ta, hta, hha⟩ := ha
  refine ⟨_, pe_not hta, fun η σ as H Hs res Q hR hf hp => ?_⟩
  rcases bindR_inv hf with ⟨o, η1, e1, e2⟩ | ⟨c, p, η1, e1, rfl⟩
  · refine hha η σ as H Hs _ _ hR e1 fun v as' H' Hs' r1 l1 x1 => ?_
    rcases bindR_inv e2 with ⟨t, η2, e3, e4⟩ | ⟨c, p, η2, e3, rfl⟩
    · obtain ⟨t', as2, e5, rfl, r2, m2⟩ := blOf_inv e3 r1
      injection e5 with e6 e7
      subst e6 e7
      obtain rfl : res = .ok (.pend (.sh (.bl (!t)))) η2 := (Option.some.inj e4).symm
      exact ⟨t, rfl, hp _ as2 H' Hs' (r2.push_sh (by simp only [RepD])) trivial (x1.less m2)⟩
    · obtain ⟨t', as2, e5, rfl, r2, m2⟩ := blOf_inv e3 r1
      cases e5
  · exact hha η σ as H Hs _ _ hR e1 hp
end
end Wp
end
section
set_option Elab.async false
set_option linter.all false
set_option maxRecDepth 100000
namespace Wp
open PySem PySem.Spec PyProof.Rows L2

inductive Flw where
  | next | ret (x : Val) | brk | cont
abbrev FS := Env → RO Flw
def Kept (kp : List Nat) (σ σ' : L2.St) : Prop := ∀ i ∈ kp, σ'[i]? = σ[i]?
theorem Kept.refl {kp : List Nat} {σ : L2.St} : Kept kp σ σ := fun _ _ => rfl
theorem Kept.trans {kp : List Nat} {σ σ' σ'' : L2.St} (a : Kept kp σ σ') (b : Kept kp σ' σ'') : Kept kp σ σ'' := fun i hi => (b i hi).trans (a i hi)
/-- what holds behind a way out -/
def At (G : Gc) (kp : List Nat) (σ : L2.St) (as : List Addr) (H Hs : Hp) (η' : Env) (P : L2.St → Hp → Prop) : Prop :=
  ∀ σ' as' H' Hs', Rep G η' σ' as' H' Hs' → Ext as H Hs as' H' Hs' → Kept kp σ σ' → P σ' H'
def PostS (G : Gc) (W : WX) (kp : List Nat) (σ : L2.St) (as : List Addr) (H Hs : Hp) (D : Ends) : Res Flw → Prop
  | .ok .next η' => At G kp σ as H Hs η' D.nx
  | .ok .brk η' => At G kp σ as H Hs η' D.bk
  | .ok .cont η' => At G kp σ as H Hs η' D.ct
  | .ok (.ret x) η' => ∀ v σ' as' H' Hs', Rep G (some x :: η') (some v :: σ') as' H' Hs' → Ext as H Hs as' H' Hs' → Kept kp σ σ' → D.rt v H'
  | .exc c p η' => ∀ u dx σ' as' H' Hs', Rep G (p :: η') (u :: σ') as' H' Hs' → XRep H' p u dx → Ext as H Hs as' H' Hs' → Kept kp σ σ' → W (.ref (G.C c)) dx σ' H'
section
variable {G : Gc} {W : WX} {kp : List Nat} {σ σ1 : L2.St} {as as1 : List Addr} {H Hs H1 Hs1 : Hp} {D : Ends} {η' : Env}
theorem At.from {P : L2.St → Hp → Prop} (h : At G kp σ as H Hs η' P) (x : Ext as H Hs as1 H1 Hs1) (k : Kept kp σ σ1) : At G kp σ1 as1 H1 Hs1 η' P := fun σ2 as2 H2 Hs2 r2 x2 k2 => h σ2 as2 H2 Hs2 r2 (x.trans x2) (k.trans k2)
theorem PostS.from {r : Res Flw} (h : PostS G W kp σ as H Hs D r) (x : Ext as H Hs as1 H1 Hs1) (k : Kept kp σ σ1) : PostS G W kp σ1 as1 H1 Hs1 D r := by
  cases r with
  | ok f η' =>
    cases f with
    | ret y => exact fun v σ2 as2 H2 Hs2 r2 x2 k2 => h v σ2 as2 H2 Hs2 r2 (x.trans x2) (k.trans k2)
    | next => exact At.from h x k
    | brk => exact At.from h x k
    | cont => exact At.from h x k
  | exc c p η' => exact fun u dx σ2 as2 H2 Hs2 r2 hX x2 k2 => h u dx σ2 as2 H2 Hs2 r2 hX (x.trans x2) (k.trans k2)
theorem PostX.toS {c : Nat} {p : Option Val} (h : PostS G W kp σ as H Hs D (.exc c p η')) : PostX G W σ as H Hs c p η' := fun v dx as' H' Hs' r hX x => h v dx σ as' H' Hs' r hX x Kept.refl
end
section
variable {M : Md} {S : Sc} {k : Nat} {W : WX} {X : Cx} {kp : List Nat} {pos : Pos}
def OkS (M : Md) (X : Cx) (W : WX) (kp : List Nat) (st : Stmt) (f : FS) : Prop :=
  ∃ t, PS X st t ∧ ∀ η σ as H Hs r D, Rep M.G η σ as H Hs → f η = some r → PostS M.G W kp σ as H Hs D r → t D σ H
def OkB (M : Md) (X : Cx) (W : WX) (kp : List Nat) (st : List Stmt) (f : FS) : Prop :=
  ∃ t, PSs X st t ∧ ∀ η σ as H Hs r D, Rep M.G η σ as H Hs → f η = some r → PostS M.G W kp σ as H Hs D r → t D σ H

def fNext : FS := fun η => okR .next η
def fSeq (f g : FS) : FS := fun η => bindR (f η) fun w η1 => match w with
  | .next => g η1
  | w => okR w η1
theorem okB_nil : OkB M X W kp [] fNext := by
  refine ⟨_, pss_nil, fun η σ as H Hs r D hR hf hp => ?_⟩
  obtain rfl : r = .ok .next η := (Option.some.inj hf).symm
  exact hp σ as H Hs hR Ext.refl Kept.refl
theorem okB_cons {st : Stmt} {rest : List Stmt} {f g : FS} (h1 : OkS M X W kp st f) (h2 : OkB M X W kp rest g) : OkB M X W kp (st :: rest) (fSeq f g) := by
  obtain ⟨t, ht, hh⟩ := h1
  obtain ⟨u, hu, hhu⟩ := h2
  refine ⟨_, pss_cons ht hu, fun η σ as H Hs r D hR hf hp => ?_⟩
  rcases bindR_inv hf with ⟨w, η1, e1, e2⟩ | ⟨c, p, η1, e1, rfl⟩
  · refine hh η σ as H Hs _ _ hR e1 ?_
    cases w with
    | next => exact fun σ' as' H' Hs' r1 x1 k1 => hhu η1 σ' as' H' Hs' r D r1 e2 (hp.from x1 k1)
    | ret x =>
      obtain rfl : r = .ok (.ret x) η1 := (Option.some.inj e2).symm
      exact hp
    | brk =>
      obtain rfl : r = .ok .brk η1 := (Option.some.inj e2).symm
      exact hp
    | cont =>
      obtain rfl : r = .ok .cont η1 := (Option.some.inj e2).symm
      exact hp
  · exact hh η σ as H Hs _ _ hR e1 hp
theorem okB_one {st : Stmt} {f : FS} (h1 : OkS M X W kp st f) : OkB M X W kp [st] f := let ⟨t, ht, hh⟩ := h1; ⟨t, pss_one ht, hh⟩

section
variable {G : Gc}
/-- the value on top goes into a place -/
theorem Rep.store {x : Val} {v : V} {η : Env} {σ : L2.St} {as : List Addr} {H Hs : Hp} {i : Nat} (h : Rep G (some x :: η) (some v :: σ) as H Hs) (hi : i < η.length) : ∃ as', Rep G (η.set i (some x)) (σ.set i (some v)) as' H Hs ∧ ∀ a ∈ as', a ∈ as := by
  obtain ⟨w, σ', a1, a2, e, rfl, p, q⟩ := h.env
  obtain ⟨e1, rfl⟩ := List.cons.inj e
  obtain rfl : v = w := Option.some.inj e1
  obtain ⟨b1, b2, b3, rfl, r⟩ := q.store i (some x) (some v) a1 hi ⟨v, rfl, p⟩
  have hm : ∀ a ∈ b1 ++ (a1 ++ b3), a ∈ a1 ++ (b1 ++ (b2 ++ b3)) := fun a ha => by
    simp only [List.mem_append] at ha ⊢
    rcases ha with ha | ha | ha <;> simp [ha]
  have hn : (b1 ++ (a1 ++ b3)).Nodup := by
    have h1 : (a1 ++ (b1 ++ (b2 ++ b3))).Nodup := h.nd
    have h2 : (a1 ++ (b1 ++ b3)).Nodup := h1.sublist (List.Sublist.append (List.Sublist.refl _) (List.Sublist.append (List.Sublist.refl _) (List.sublist_append_right _ _)))
    have pp : (b1 ++ (a1 ++ b3)).Perm (a1 ++ (b1 ++ b3)) := List.perm_append_comm_assoc _ _ _
    exact pp.nodup_iff.mpr h2
  exact ⟨_, ⟨h.le, r, hn, fun a ha => h.off a (hm a ha), h.tp⟩, hm⟩
theorem Rep.storeAt {π : Env} {τ : L2.St} {x : Val} {v : V} {η : Env} {σ : L2.St} {as : List Addr} {H Hs : Hp} {i : Nat} (h : Rep G (some x :: (π ++ η)) (some v :: (τ ++ σ)) as H Hs) (hl : τ.length = π.length) (hi : i < η.length) :
    ∃ as', Rep G (π ++ η.set i (some x)) (τ ++ σ.set i (some v)) as' H Hs ∧ ∀ a ∈ as', a ∈ as := by
  obtain ⟨as', r, m⟩ := h.store (i := π.length + i) (by rw [List.length_append]; omega)
  rw [List.set_append_right _ _ (Nat.le_add_right _ _), Nat.add_sub_cancel_left] at r
  rw [← hl, List.set_append_right _ _ (Nat.le_add_right _ _), Nat.add_sub_cancel_left] at r
  exact ⟨as', r, m⟩
theorem Kept.set {σ : L2.St} {i : Nat} {s : Option V} (h : i ∉ kp) : Kept kp σ (σ.set i s) := fun j hj => by
  rw [List.getElem?_set_ne]
  rintro rfl
  exact h hj
end
/-- may a name be stored -/
def locOk (S : Sc) (x : Str) : Bool := match S.sc.names.lookup x with
  | some .local => true
  | some .cell => S.own x
  | _ => false
theorem loc_ok (ok : Cok M S k W X) {x : Str} (h : locOk S x = true) : Loc X.env.scope x ∧ (X.fn x = true ∨ X.env.scope.names.lookup x = some .local) := by
  unfold locOk at h
  rw [ok.sc]
  cases e : S.sc.names.lookup x with
  | none =>
    rw [e] at h
    cases h
  | some kd =>
    rw [e] at h
    cases kd with
    | «local» => exact ⟨.inl e, .inr rfl⟩
    | cell => exact ⟨.inr e, .inl (ok.own x h)⟩
    | _ => cases h
def fSet (i : Nat) (f : FO) : FS := fun η => bindR (f η) fun o η1 => match esc1 o η1 with
  | some (x, η2) => if i < η2.length then okR .next (η2.set i (some x)) else none
  | none => none
def noComp : Expr → Bool
  | .ListComp .. => false
  | .SetComp .. => false
  | .DictComp .. => false
  | _ => true
theorem swaps_no {e : Expr} {t : Option Expr} {l : Nat} {env : PySem.Env} (h : noComp e = true) : swapsWith e t l env = pure false := by
  cases e <;> first | rfl | cases h
theorem ok_set {i : Nat} {x : Str} {e : Expr} {f : FO} {pos' : Pos} (ok : Cok M S k W X) (hi : S.N[i]? = some x) (hx : locOk S x = true) (hk : i ∉ kp) (he : OkO M X W e f) (hs : swapsWith e (some (.Name x pos')) pos.line X.env = pure false) : OkS M X W kp (.Assign [.Name x pos'] e pos) (fSet i f) := by
  obtain ⟨t, ht, hh⟩ := he
  obtain ⟨l1, l2⟩ := loc_ok ok hx
  refine ⟨_, ps_set (i := i) (by rw [ok.N]; exact ok.nd) (by rw [ok.N]; exact hi) l1 ht hs l2, fun η σ as H Hs r D hR hf hp => ?_⟩
  rcases bindR_inv hf with ⟨o, η1, e1, e2⟩ | ⟨c, p, η1, e1, rfl⟩
  · refine hh η σ as H Hs _ _ hR e1 fun v as' H' Hs' r1 l1 x1 => ?_
    cases e3 : esc1 o η1 with
    | none =>
      rw [e3] at e2
      cases e2
    | some q =>
      obtain ⟨y, η2⟩ := q
      rw [e3] at e2
      simp only at e2
      by_cases hl : i < η2.length
      · rw [if_pos hl] at e2
        obtain rfl : r = .ok .next (η2.set i (some y)) := (Option.some.inj e2).symm
        obtain ⟨as2, Hs2, r2, x2⟩ := esc1_ok (π := []) (τ := []) r1 rfl l1 e3
        obtain ⟨as3, r3, m3⟩ := Rep.store (i := i) r2 hl
        exact hp _ as3 H' Hs2 r3 ((x1.trans x2).less m3) (Kept.set hk)
      · rw [if_neg hl] at e2
        cases e2
  · exact hh η σ as H Hs _ _ hR e1 (PostX.toS hp)
/-- a, b = x, y (two names of the frame) -/
def fPar (i j : Nat) (g : FL) : FS := fun η => bindR (g η) fun os η1 => match escAll os η1 with
  | some ([x, y], η2) => if i < η2.length ∧ j < η2.length then okR .next ((η2.set i (some x)).set j (some y)) else none
  | _ => none
theorem ok_par {i j : Nat} {x y : Str} {a b : Expr} {g : FL} {px py pt : Pos} {kt k2 : Nat} {pt2 : Pos} (ok : Cok M S k W X) (hi : S.N[i]? = some x) (hj : S.N[j]? = some y) (hij : i ≠ j) (hx : S.sc.names.lookup x = some .local) (hy : S.sc.names.lookup y = some .local)
    (ki : i ∉ kp) (kj : j ∉ kp) (ha : OkL M X W [a, b] g) (hw : swappedStores [.Tuple [.Name x px, .Name y py] kt pt] (.Tuple [a, b] k2 pt2) X.env = pure (some [x, y])) :
    OkS M X W kp (.Assign [.Tuple [.Name x px, .Name y py] kt pt] (.Tuple [a, b] k2 pt2) pos) (fPar i j g) := by
  obtain ⟨t, ht, hh⟩ := ha
  refine ⟨_, ps_par (i := i) (j := j) ok.calm (by rw [ok.N]; exact ok.nd) (by rw [ok.N]; exact hi) (by rw [ok.N]; exact hj) hij (by rw [ok.sc]; exact hx) (by rw [ok.sc]; exact hy) ht hw, fun η σ as H Hs r D hR hf hp => ?_⟩
  rcases bindR_inv hf with ⟨os, η1, e1, e2⟩ | ⟨c, p, η1, e1, rfl⟩
  · refine hh η σ as H Hs _ _ hR e1 fun vs as' H' Hs' r1 l1 x1 => ?_
    cases e3 : escAll os η1 with
    | none =>
      rw [e3] at e2
      cases e2
    | some q =>
      obtain ⟨xs, η2⟩ := q
      rw [e3] at e2
      obtain ⟨as2, Hs2, r2, x2⟩ := escAll_ok (π := []) (τ := []) r1 rfl l1 e3
      cases xs with
      | nil => cases e2
      | cons z1 xs =>
        cases xs with
        | nil => cases e2
        | cons z2 xs =>
          cases xs with
          | cons _ _ => cases e2
          | nil =>
            simp only at e2
            by_cases hl : i < η2.length ∧ j < η2.length
            · rw [if_pos hl] at e2
              obtain rfl : r = .ok .next ((η2.set i (some z1)).set j (some z2)) := (Option.some.inj e2).symm
              have r2' : Rep M.G (some z1 :: ([some z2] ++ η2)) (vs.map some ++ σ) as2 H' Hs2 := r2
              obtain ⟨w1, σ1, c1, c2, ew, _, _, q1⟩ := r2'.env
              obtain ⟨w2, σ2, c3, c4, ew2, _, _, q2⟩ := (show RepO M.G H' Hs2 (some z2 :: η2) σ1 c2 from q1)
              subst ew2
              have hvs : vs = [w1, w2] ∧ σ2 = σ := by
                have hl2 := q2.length
                have l0 := r1.env.length
                have l3 : η2.length = η1.length := by
                  have aux : ∀ os η xs η', escAll os η = some (xs, η') → η'.length = η.length := by
                    intro os
                    induction os with
                    | nil => intro η xs η' h; simp only [escAll, Option.some.injEq, Prod.mk.injEq] at h; rw [h.2]
                    | cons o os ih =>
                      intro η xs η' h
                      simp only [escAll] at h
                      cases q1 : esc1 o η with
                      | none => rw [q1] at h; cases h
                      | some z =>
                        obtain ⟨y', ηy⟩ := z
                        rw [q1] at h
                        simp only at h
                        have ly : ηy.length = η.length := by
                          cases o with
                          | pend y0 => simp only [esc1, Option.some.injEq, Prod.mk.injEq] at q1; rw [q1.2]
                          | slot i0 =>
                            simp only [esc1] at q1
                            cases e0 : η[i0]? with
                            | none => rw [e0] at q1; cases q1
                            | some u => cases u with
                              | none => rw [e0] at q1; cases q1
                              | some u => rw [e0] at q1; simp only [Option.some.injEq, Prod.mk.injEq] at q1; rw [← q1.2, List.length_set]
                        cases q2 : escAll os ηy with
                        | none => rw [q2] at h; cases h
                        | some z2 =>
                          obtain ⟨ys, ηz⟩ := z2
                          rw [q2] at h
                          simp only [Option.some.injEq, Prod.mk.injEq] at h
                          rw [← h.2, ih _ _ _ q2, ly]
                  exact aux _ _ _ _ e3
                have lv := l1.length
                simp only [List.length_append, List.length_map] at l0
                have hlv : (vs.map some).length = ([some w1, some w2] : L2.St).length := by
                  have := congrArg List.length ew
                  simp only [List.length_append, List.length_cons, List.length_map] at this ⊢
                  simp only [List.length_nil]
                  omega
                obtain ⟨h1, h2⟩ := List.append_inj (show vs.map some ++ σ = [some w1, some w2] ++ σ2 from ew) hlv
                refine ⟨?_, h2.symm⟩
                cases vs with
                | nil => cases h1
                | cons a vs =>
                  cases vs with
                  | nil => cases h1
                  | cons b vs =>
                    cases vs with
                    | nil =>
                      simp only [List.map_cons, List.map_nil, List.cons.injEq, Option.some.injEq, and_true] at h1
                      rw [h1.1, h1.2]
                    | cons _ _ => simp at h1
              obtain ⟨rfl, rfl⟩ := hvs
              obtain ⟨as3, r3, m3⟩ := Rep.storeAt (π := [some z2]) (τ := [some w2]) (i := i) r2' rfl hl.1
              obtain ⟨as4, r4, m4⟩ := Rep.store (i := j) (x := z2) (v := w2) (show Rep M.G (some z2 :: η2.set i (some z1)) (some w2 :: σ2.set i (some w1)) as3 H' Hs2 from r3) (by rw [List.length_set]; exact hl.2)
              refine ⟨w1, w2, rfl, ?_⟩
              exact hp _ as4 H' Hs2 r4 ((x1.trans x2).less fun a ha => m3 a (m4 a ha)) ((Kept.set ki).trans (Kept.set kj))
            · rw [if_neg hl] at e2
              cases e2
  · exact hh η σ as H Hs _ _ hR e1 (PostX.toS hp)

def fIf (c : FT) (f g : FS) : FS := fun η => bindR (c η) fun b η1 => if b then f η1 else g η1
theorem ok_if {c : Expr} {a b : List Stmt} {fc : FT} {fa fb : FS} (hc : OkT M X W c fc) (ha : OkB M X W kp a fa) (hb : OkB M X W kp b fb) : OkS M X W kp (.If c a b pos) (fIf fc fa fb) := by
  obtain ⟨tc, htc, hhc⟩ := hc
  obtain ⟨ta, hta, hha⟩ := ha
  obtain ⟨tb, htb, hhb⟩ := hb
  refine ⟨_, ps_if htc hta htb, fun η σ as H Hs res D hR hf hp => ?_⟩
  rcases bindR_inv hf with ⟨t, η1, e1, e2⟩ | ⟨c, p, η1, e1, rfl⟩
  · refine hhc η σ as H Hs _ _ hR e1 fun as' H' Hs' r1 x1 => ?_
    cases t with
    | true => exact hha η1 σ as' H' Hs' res D r1 e2 (hp.from x1 Kept.refl)
    | false => exact hhb η1 σ as' H' Hs' res D r1 e2 (hp.from x1 Kept.refl)
  · exact hhc η σ as H Hs _ _ hR e1 (PostX.toS hp)
def fRet (f : FO) : FS := fun η => bindR (f η) fun o η1 => match esc1 o η1 with
  | some (x, η2) => okR (.ret x) η2
  | none => none
theorem ok_ret {e : Expr} {f : FO} (he : OkO M X W e f) : OkS M X W kp (.Return (some e) pos) (fRet f) := by
  obtain ⟨t, ht, hh⟩ := he
  refine ⟨_, ps_ret ht, fun η σ as H Hs r D hR hf hp => ?_⟩
  rcases bindR_inv hf with ⟨o, η1, e1, e2⟩ | ⟨c, p, η1, e1, rfl⟩
  · refine hh η σ as H Hs _ _ hR e1 fun v as' H' Hs' r1 l1 x1 => ?_
    cases e3 : esc1 o η1 with
    | none =>
      rw [e3] at e2
      cases e2
    | some q =>
      obtain ⟨y, η2⟩ := q
      rw [e3] at e2
      obtain rfl : r = .ok (.ret y) η2 := (Option.some.inj e2).symm
      obtain ⟨as2, Hs2, r2, x2⟩ := esc1_ok (π := []) (τ := []) r1 rfl l1 e3
      exact hp v σ as2 H' Hs2 r2 (x1.trans x2) Kept.refl
  · exact hh η σ as H Hs _ _ hR e1 (PostX.toS hp)
def fRetN : FS := fun η => okR (.ret (.sh .non)) η
def fExpr (f : FO) : FS := fun η => bindR (f η) fun _ η1 => okR .next η1
theorem ok_expr {e : Expr} {f : FO} (he : OkO M X W e f) (hs : noComp e = true) : OkS M X W kp (.Expr e pos) (fExpr f) := by
  obtain ⟨t, ht, hh⟩ := he
  refine ⟨_, ps_expr ht (swaps_no hs), fun η σ as H Hs r D hR hf hp => ?_⟩
  rcases bindR_inv hf with ⟨o, η1, e1, e2⟩ | ⟨c, p, η1, e1, rfl⟩
  · refine hh η σ as H Hs _ _ hR e1 fun v as' H' Hs' r1 l1 x1 => ?_
    obtain rfl : r = .ok .next η1 := (Option.some.inj e2).symm
    obtain ⟨as2, r2, m2⟩ := r1.pop
    exact hp σ as2 H' Hs' r2 (x1.less m2) Kept.refl
  · exact hh η σ as H Hs _ _ hR e1 (PostX.toS hp)
def fNever : FS := fun _ => none
theorem ok_never {st : Stmt} : OkS M X W kp st fNever := ⟨_, ps_never, fun _ _ _ _ _ _ _ _ hf => nomatch hf⟩
def fFlw (w : Flw) : FS := fun η => okR w η
/-- a target of a loop, of an assignment: the value, the places -/
abbrev FG := Val → Env → Option Env
def OkG (M : Md) (X : Cx) (kp : List Nat) (tg : Expr) (f : FG) : Prop :=
  ∃ g, PG X tg g ∧ ∀ (π : Env) (τ : L2.St) η σ as H Hs y x η1 (Q : L2.St → Hp → Prop), Rep M.G (some y :: (π ++ η)) (some x :: (τ ++ σ)) as H Hs → τ.length = π.length → f y η = some η1 →
    (∀ σ1 as1, Rep M.G (π ++ η1) (τ ++ σ1) as1 H Hs → (∀ a ∈ as1, a ∈ as) → Kept kp σ σ1 → Q σ1 H) → g x σ H Q
def OkGs (M : Md) (X : Cx) (kp : List Nat) (ts : List Expr) (f : List Val → Env → Option Env) : Prop :=
  ∃ g, PGs X ts g ∧ ∀ (π : Env) (τ : L2.St) η σ as H Hs (ys : List Val) (xs : List V) η1 (Q : L2.St → Hp → Prop), Rep M.G (ys.map some ++ (π ++ η)) (xs.map some ++ (τ ++ σ)) as H Hs → xs.length = ys.length → τ.length = π.length → f ys η = some η1 →
    (∀ σ1 as1, Rep M.G (π ++ η1) (τ ++ σ1) as1 H Hs → (∀ a ∈ as1, a ∈ as) → Kept kp σ σ1 → Q σ1 H) → g xs σ H Q
def gNm (i : Nat) : FG := fun y η => if i < η.length then some (η.set i (some y)) else none
theorem okG_name {i : Nat} {x : Str} (ok : Cok M S k W X) (hi : S.N[i]? = some x) (hx : locOk S x = true) (hk : i ∉ kp) : OkG M X kp (.Name x pos) (gNm i) := by
  obtain ⟨l1, l2⟩ := loc_ok ok hx
  refine ⟨_, pg_name (i := i) (by rw [ok.N]; exact ok.nd) (by rw [ok.N]; exact hi) l1 l2, fun π τ η σ as H Hs y v η1 Q hR hl hf hq => ?_⟩
  unfold gNm at hf
  by_cases h : i < η.length
  · rw [if_pos h] at hf
    obtain rfl := Option.some.inj hf
    obtain ⟨as1, r1, m1⟩ := hR.storeAt hl h
    exact hq _ as1 r1 m1 (Kept.set hk)
  · rw [if_neg h] at hf
    cases hf
def gsNil : List Val → Env → Option Env
  | [], η => some η
  | _, _ => none
def gsCons (f : FG) (g : List Val → Env → Option Env) : List Val → Env → Option Env
  | y :: ys, η => (f y η).bind (g ys)
  | _, _ => none
theorem okGs_nil : OkGs M X kp [] gsNil := by
  refine ⟨_, pgs_nil, fun π τ η σ as H Hs ys xs η1 Q hR hx hl hf hq => ?_⟩
  cases ys with
  | cons _ _ => cases hf
  | nil =>
    cases xs with
    | cons _ _ => cases hx
    | nil =>
      obtain rfl := Option.some.inj hf
      exact ⟨rfl, hq σ as hR (fun _ h => h) Kept.refl⟩
theorem okGs_cons {e : Expr} {es : List Expr} {f : FG} {g : List Val → Env → Option Env} (h1 : OkG M X kp e f) (h2 : OkGs M X kp es g) (hs : noStar e = true) : OkGs M X kp (e :: es) (gsCons f g) := by
  obtain ⟨t, ht, hh⟩ := h1
  obtain ⟨u, hu, hhu⟩ := h2
  refine ⟨_, pgs_cons ht hu (by cases e <;> first | rfl | cases hs), fun π τ η σ as H Hs ys xs η1 Q hR hx hl hf hq => ?_⟩
  cases ys with
  | nil => cases hf
  | cons y ys =>
    cases xs with
    | nil => cases hx
    | cons x xs =>
      simp only [gsCons, Option.bind_eq_some_iff] at hf
      obtain ⟨η2, e1, e2⟩ := hf
      refine ⟨x, xs, rfl, ?_⟩
      have hx' : xs.length = ys.length := by simpa using hx
      have hR' : Rep M.G (some y :: ((ys.map some ++ π) ++ η)) (some x :: ((xs.map some ++ τ) ++ σ)) as H Hs := by simpa using hR
      refine hh (ys.map some ++ π) (xs.map some ++ τ) η σ as H Hs y x η2 _ hR' (by simp [hx', hl]) e1 fun σ1 as1 r1 m1 k1 => ?_
      refine hhu π τ η2 σ1 as1 H Hs ys xs η1 Q (by simpa using r1) hx' hl e2 fun σ2 as2 r2 m2 k2 => ?_
      exact hq σ2 as2 r2 (fun a ha => m1 a (m2 a ha)) (k1.trans k2)
/-- the items of a tuple -/
def itemsT : Val → Option (List Val)
  | .sh (.tup ds) => some (ds.map .sh)
  | .ot xs => some xs
  | _ => none
theorem Rep.items {G : Gc} {y : Val} {x : V} {η : Env} {σ : L2.St} {as : List Addr} {H Hs : Hp} {ys : List Val} (h : Rep G (some y :: η) (some x :: σ) as H Hs) (e : itemsT y = some ys) :
    ∃ a vs as', x = .ref a ∧ SqT G.K H a vs ∧ vs.length = ys.length ∧ Rep G (ys.map some ++ η) (vs.map some ++ σ) as' H Hs ∧ (∀ b ∈ as', b ∈ as) := by
  obtain ⟨w, σ', a1, a2, e1, rfl, p, q⟩ := h.env
  obtain ⟨e2, rfl⟩ := List.cons.inj e1
  obtain rfl : x = w := Option.some.inj e2
  cases y with
  | sh d =>
    cases d with
    | tup ds =>
      obtain rfl := Option.some.inj e
      obtain ⟨rfl, rd⟩ := RepV.sh_iff.mp p
      simp only [RepD] at rd
      obtain ⟨a, vs, rfl, sq, rds⟩ := rd
      have rs := RepVs.shs (H := H) rds
      refine ⟨a, vs, a2, rfl, SqT.of (h.le.keep sq IsDO.tup), by rw [List.length_map, rds.length], ⟨h.le, ?_, h.nd, h.off, h.tp⟩, fun b hb => hb⟩
      exact rs.slots.join q
    | _ => cases e
  | ot xs =>
    obtain rfl := Option.some.inj e
    simp only [RepV] at p
    obtain ⟨a, vs, rfl, ha, rv⟩ := p
    exact ⟨a, vs, a1 ++ a2, rfl, SqT.of (h.le.keep ha IsDO.tup), rv.length.symm, ⟨h.le, rv.slots.join q, h.nd, h.off, h.tp⟩, fun b hb => hb⟩
  | _ => cases e
def gTp (g : List Val → Env → Option Env) : FG := fun y η => (itemsT y).bind fun ys => g ys η
theorem each_len {env : PySem.Env} : ∀ {es : List Expr}, (assignEach es env).length = es.length
  | [] => rfl
  | e :: es => by cases e <;> exact congrArg Nat.succ each_len
theorem each_star {env : PySem.Env} : ∀ {es : List Expr}, es.all noStar = true → (assignEach es env).findIdx? (·.1) = none
  | [], _ => rfl
  | e :: es, h => by
    rw [List.all_cons, Bool.and_eq_true] at h
    have ih := each_star (env := env) h.2
    have e1 : assignEach (e :: es) env = (false, assign e env) :: assignEach es env := by cases e <;> first | rfl | cases h.1
    rw [e1, List.findIdx?_cons]
    simp [ih]
theorem okG_tup {es : List Expr} {g : List Val → Env → Option Env} {j : Nat} (ok : Cok M S k W X) (h : OkGs M X kp es g) (hs : es.all noStar = true) (hg : ∀ ys η η1, g ys η = some η1 → ys.length = es.length) : OkG M X kp (.Tuple es j pos) (gTp g) := by
  obtain ⟨P, w, K, mg, base, C⟩ := M
  have emd := ok.md
  simp only [mdOf, Md.mk.injEq, and_true] at emd
  obtain ⟨rfl, rfl, rfl, rfl, rfl⟩ := emd
  obtain ⟨t, ht, hh⟩ := h
  refine ⟨_, pg_tup (n := es.length) ok.calm ht each_len (each_star hs), fun π τ η σ as H Hs y x η1 Q hR hl hf hq => ?_⟩
  simp only [gTp, Option.bind_eq_some_iff] at hf
  obtain ⟨ys, e1, e2⟩ := hf
  obtain ⟨a, vs, as', rfl, sq, hl2, r1, m1⟩ := hR.items e1
  refine ⟨a, vs, rfl, sq, by rw [hl2]; exact hg ys η η1 e2, ?_⟩
  exact hh π τ η σ as' H Hs ys vs η1 Q r1 hl2 hl e2 fun σ1 as1 r2 m2 k2 => hq σ1 as1 r2 (fun b hb => m1 b (m2 b hb)) k2
def fAsg (g : FG) (f : FO) : FS := fun η => bindR (f η) fun o η1 => match esc1 o η1 with
  | some (x, η2) => (match g x η2 with
    | some η3 => okR .next η3
    | none => none)
  | none => none
theorem ok_asg {tg e : Expr} {g : FG} {f : FO} (he : OkO M X W e f) (hg : OkG M X kp tg g) (hs : swapsWithSole [tg] e pos.line X.env = pure false) (hw : swappedStores [tg] e X.env = pure none) (hst : noStar tg = true) : OkS M X W kp (.Assign [tg] e pos) (fAsg g f) := by
  obtain ⟨t, ht, hh⟩ := he
  obtain ⟨u, hu, hhu⟩ := hg
  refine ⟨_, ps_asg ht hu hs hw (by cases tg <;> first | rfl | cases hst), fun η σ as H Hs r D hR hf hp => ?_⟩
  rcases bindR_inv hf with ⟨o, η1, e1, e2⟩ | ⟨c, p, η1, e1, rfl⟩
  · refine hh η σ as H Hs _ _ hR e1 fun v as' H' Hs' r1 l1 x1 => ?_
    cases e3 : esc1 o η1 with
    | none =>
      rw [e3] at e2
      cases e2
    | some q =>
      obtain ⟨y, η2⟩ := q
      rw [e3] at e2
      simp only at e2
      cases e4 : g y η2 with
      | none =>
        rw [e4] at e2
        cases e2
      | some η3 =>
        rw [e4] at e2
        obtain rfl : r = .ok .next η3 := (Option.some.inj e2).symm
        obtain ⟨as2, Hs2, r2, x2⟩ := esc1_ok (π := []) (τ := []) r1 rfl l1 e3
        refine hhu [] [] η2 σ as2 H' Hs2 y v η3 _ r2 rfl e4 fun σ1 as1 r3 m3 k3 => ?_
        exact hp σ1 as1 H' Hs2 r3 ((x1.trans x2).less m3) k3
  · exact hh η σ as H Hs _ _ hR e1 (PostX.toS hp)
end
end Wp
end
section
set_option Elab.async false
set_option linter.all false
set_option maxRecDepth 100000
namespace Wp
open PySem PySem.Spec PyProof.Rows L2

section
variable {M : Md} {S : Sc} {k : Nat} {W : WX} {X : Cx} {kp : List Nat} {pos : Pos}
/-- a block with values pending -/
def PostB (G : Gc) (W : WX) (kp : List Nat) (π : Env) (τ : L2.St) (σ : L2.St) (as : List Addr) (H Hs : Hp) (D : Ends) : Res Flw → Prop
  | .ok .next η' => ∀ σ' as' H' Hs', Rep G (π ++ η') (τ ++ σ') as' H' Hs' → Ext as H Hs as' H' Hs' → Kept kp σ σ' → D.nx σ' H'
  | .ok .brk η' => ∀ σ' as' H' Hs', Rep G (π ++ η') (τ ++ σ') as' H' Hs' → Ext as H Hs as' H' Hs' → Kept kp σ σ' → D.bk σ' H'
  | .ok .cont η' => ∀ σ' as' H' Hs', Rep G (π ++ η') (τ ++ σ') as' H' Hs' → Ext as H Hs as' H' Hs' → Kept kp σ σ' → D.ct σ' H'
  | .ok (.ret x) η' => ∀ v σ' as' H' Hs', Rep G (some x :: η') (some v :: σ') as' H' Hs' → Ext as H Hs as' H' Hs' → Kept kp σ σ' → D.rt v H'
  | .exc c p η' => ∀ u dx σ' as' H' Hs', Rep G (p :: η') (u :: σ') as' H' Hs' → XRep H' p u dx → Ext as H Hs as' H' Hs' → Kept kp σ σ' → W (.ref (G.C c)) dx σ' H'
theorem OkB.framed {st : List Stmt} {f : FS} (h : OkB M X W kp st f) : ∃ t, PSs X st t ∧ ∀ π τ η σ as H Hs r D, Rep M.G (π ++ η) (τ ++ σ) as H Hs → τ.length = π.length → f η = some r → PostB M.G W kp π τ σ as H Hs D r → t D σ H := by
  obtain ⟨t, ht, hh⟩ := h
  refine ⟨t, ht, fun π τ η σ as H Hs r D hR hl hf hp => ?_⟩
  obtain ⟨a1, a2, rfl, p, q⟩ := hR.sub hl
  have off : ∀ a ∈ a1, Hs a = none := fun a ha => hR.off a (by simp [ha])
  refine hh η σ a2 H Hs r D q hf ?_
  cases r with
  | ok w η' =>
    cases w with
    | ret x => exact fun v σ' as' H' Hs' r1 x1 k1 => hp v σ' as' H' Hs' r1 (x1.more a1) k1
    | next =>
      intro σ' as' H' Hs' r1 x1 k1
      obtain ⟨r2, x2⟩ := Rep.frame p hR.nd off r1 x1
      exact hp σ' _ H' Hs' r2 x2 k1
    | brk =>
      intro σ' as' H' Hs' r1 x1 k1
      obtain ⟨r2, x2⟩ := Rep.frame p hR.nd off r1 x1
      exact hp σ' _ H' Hs' r2 x2 k1
    | cont =>
      intro σ' as' H' Hs' r1 x1 k1
      obtain ⟨r2, x2⟩ := Rep.frame p hR.nd off r1 x1
      exact hp σ' _ H' Hs' r2 x2 k1
  | exc c pp η' => exact fun u dx σ' as' H' Hs' r1 hX x1 k1 => hp u dx σ' as' H' Hs' r1 hX (x1.more a1) k1

structure ItOk (G : Gc) (J : It) (π : Env) (τ : L2.St) (ys : List Val) (C : List Addr → Hp → Hp → Prop) : Prop where
  lp : π.length = ys.length
  lt : τ.length = ys.length
  stable : ∀ as H Hs as' H' Hs', C as H Hs → Ext as H Hs as' H' Hs' → C as' H' Hs'
  go : ∀ i as H Hs, Le Hs H → C as H Hs → i < ys.length → J.go i H
  stop : ∀ as H Hs, Le Hs H → C as H Hs → J.stop ys.length H
  yld : ∀ i as H Hs x H2 y, Le Hs H → Tps H Hs → C as H Hs → ys[i]? = some y → J.yld i H x H2 →
    (π[i]? = some (some y) ∧ τ[i]? = some (some x) ∧ H2 = H) ∨ (π[i]? = some none ∧ Sub H H2 ∧ ∃ b, RepV G H2 (addT H H2 Hs) y x b ∧ b.Nodup ∧ ∀ a ∈ b, H a = none)
abbrev FI := Env → RO (List Val)
def PostI (G : Gc) (W : WX) (σ : L2.St) (as : List Addr) (H Hs : Hp) (R : It → Hp → Prop) : Res (List Val) → Prop
  | .ok ys η' => ∀ J π τ C as' H' Hs', ItOk G J π τ ys C → C as' H' Hs' → Rep G (π ++ η') (τ ++ σ) as' H' Hs' → Ext as H Hs as' H' Hs' → R J H'
  | .exc c p η' => PostX G W σ as H Hs c p η'
def OkI (M : Md) (X : Cx) (W : WX) (tg iter : Expr) (f : FI) : Prop :=
  ∃ t, PI X tg iter t ∧ ∀ η σ as H Hs r R, Rep M.G η σ as H Hs → f η = some r → PostI M.G W σ as H Hs R r → t σ H R
/-- the next item, on top -/
theorem ItOk.next {G : Gc} {J : It} {π : Env} {τ : L2.St} {ys : List Val} {C : List Addr → Hp → Hp → Prop} (it : ItOk G J π τ ys C) {i : Nat} (hi : i < ys.length) {η : Env} {σ : L2.St} {as : List Addr} {H Hs : Hp} {x : V} {H2 : Hp}
    (r : Rep G (π.drop i ++ η) (τ.drop i ++ σ) as H Hs) (c : C as H Hs) (hy : J.yld i H x H2) :
    ∃ as' Hs', Rep G (some ys[i] :: (π.drop (i + 1) ++ η)) (some x :: (τ.drop (i + 1) ++ σ)) as' H2 Hs' ∧ Ext as H Hs as' H2 Hs' := by
  have hp : i < π.length := by rw [it.lp]; exact hi
  have ht : i < τ.length := by rw [it.lt]; exact hi
  rw [List.drop_eq_getElem_cons hp, List.drop_eq_getElem_cons ht] at r
  rcases it.yld i as H Hs x H2 ys[i] r.le r.tp c (by simp [hi]) hy with ⟨h1, h2, rfl⟩ | ⟨h1, sb, b, rv, nd, new⟩
  · have e1 : π[i] = some ys[i] := by simpa [hp] using h1
    have e2 : τ[i] = some x := by simpa [ht] using h2
    rw [e1, e2] at r
    exact ⟨as, Hs, r, Ext.refl⟩
  · have e1 : π[i] = none := by simpa [hp] using h1
    rw [e1] at r
    obtain ⟨as1, r1, m1⟩ := Rep.pop (η := π.drop (i + 1) ++ η) (σ := τ.drop (i + 1) ++ σ) r
    obtain ⟨r2, x2⟩ := r1.push' sb rv nd new
    exact ⟨_, _, r2, (Ext.refl.less m1).trans x2⟩

def bindL (r : RO Flw) (kk : FS) : RO Flw := match r with
  | some (.ok .next η) => kk η
  | some (.ok .cont η) => kk η
  | some (.ok .brk η) => okR .next η
  | some (.ok (.ret x) η) => some (.ok (.ret x) η)
  | some (.exc c p η) => some (.exc c p η)
  | none => none
def loopF (g : FG) (body : FS) : List Val → FS
  | [], η => okR .next η
  | y :: ys, η => match g y η with
    | some η1 => bindL (body η1) (loopF g body ys)
    | none => none
def fFor (g : FG) (body : FS) (f : FI) : FS := fun η => bindR (f η) fun ys η1 => loopF g body ys η1
def noSet : Expr → Bool
  | .Set .. => false
  | _ => true
theorem set_no {e : Expr} {env : PySem.Env} (h : noSet e = true) : ∀ x, foldedSetIterable e env x = pure x := by
  cases e <;> first | (intro _; rfl) | cases h
theorem ok_for {tg iter : Expr} {body : List Stmt} {g : FG} {fb : FS} {f : FI} (ok : Cok M S k W X) (hi : OkI M X W tg iter f) (hg : OkG M X kp tg g) (hb : OkB M X W kp body fb) (hs : noSet iter = true) : OkS M X W kp (.For tg iter body [] pos) (fFor g fb f) := by
  obtain ⟨wi, hwi, hwh⟩ := hi
  obtain ⟨gg, hgg, hgh⟩ := hg
  obtain ⟨tb, htb, hbh⟩ := hb.framed
  refine ⟨_, ps_for ok.po ok.calm hwi hgg htb (set_no hs), fun η σ as H Hs r D hR hf hp => ?_⟩
  rcases bindR_inv hf with ⟨ys, η1, e1, e2⟩ | ⟨c, p, η1, e1, rfl⟩
  · refine hwh η σ as H Hs _ _ hR e1 fun J π τ C as1 H1 Hs1 it c1 r1 x1 => ?_
    refine ⟨fun i m σ2 H2 => m = ys.length - i ∧ i ≤ ys.length ∧ ∃ η2 as2 Hs2, Rep M.G (π.drop i ++ η2) (τ.drop i ++ σ2) as2 H2 Hs2 ∧ C as2 H2 Hs2 ∧ loopF g fb (ys.drop i) η2 = some r ∧ Ext as H Hs as2 H2 Hs2 ∧ Kept kp σ σ2,
      ⟨ys.length, by simp, Nat.zero_le _, η1, as1, Hs1, r1, c1, e2, x1, Kept.refl⟩, ?_⟩
    rintro i m σ2 H2 ⟨rfl, hi, η2, as2, Hs2, r2, c2, e3, x2, k2⟩
    by_cases hlt : i < ys.length
    · refine .inr ⟨it.go i as2 H2 Hs2 r2.le c2 hlt, fun σ' H' => ∃ η' as' Hs', Rep M.G (π.drop (i + 1) ++ η') (τ.drop (i + 1) ++ σ') as' H' Hs' ∧ C as' H' Hs' ∧ loopF g fb (ys.drop (i + 1)) η' = some r ∧ Ext as H Hs as' H' Hs' ∧ Kept kp σ σ',
        fun σ' H' n => ⟨ys.length - (i + 1), by omega, rfl, hlt, n⟩, fun x H3 hy => ?_⟩
      rw [List.drop_eq_getElem_cons hlt] at e3
      simp only [loopF] at e3
      cases eg : g ys[i] η2 with
      | none =>
        rw [eg] at e3
        cases e3
      | some η3 =>
        rw [eg] at e3
        simp only at e3
        obtain ⟨as3, Hs2, r3, x3⟩ := it.next hlt r2 c2 hy
        have hl : (τ.drop (i + 1)).length = (π.drop (i + 1)).length := by rw [List.length_drop, List.length_drop, it.lp, it.lt]
        refine hgh (π.drop (i + 1)) (τ.drop (i + 1)) η2 σ2 as3 H3 Hs2 ys[i] x η3 _ r3 hl eg fun σ4 as4 r4 m4 k4 => ?_
        cases eb : fb η3 with
        | none =>
          rw [eb] at e3
          cases e3
        | some rb =>
          rw [eb] at e3
          have x4 := x3.less m4
          refine hbh (π.drop (i + 1)) (τ.drop (i + 1)) η3 σ4 as4 H3 Hs2 rb _ r4 hl eb ?_
          cases rb with
          | ok w η5 =>
            cases w with
            | next => exact fun σ' as' H' Hs' r' x' k' => ⟨η5, as', Hs', r', it.stable _ _ _ _ _ _ c2 (x4.trans x'), e3, x2.trans (x4.trans x'), k2.trans (k4.trans k')⟩
            | cont => exact fun σ' as' H' Hs' r' x' k' => ⟨η5, as', Hs', r', it.stable _ _ _ _ _ _ c2 (x4.trans x'), e3, x2.trans (x4.trans x'), k2.trans (k4.trans k')⟩
            | brk =>
              obtain rfl : r = .ok .next η5 := (Option.some.inj e3).symm
              intro σ' as' H' Hs' r' x' k'
              obtain ⟨a1, a2, rfl, _, q⟩ := r'.sub hl
              exact hp σ' a2 H' Hs' q ((x2.trans (x4.trans x')).less fun a ha => by simp [ha]) (k2.trans (k4.trans k'))
            | ret x =>
              obtain rfl : r = .ok (.ret x) η5 := (Option.some.inj e3).symm
              exact fun v σ' as' H' Hs' r' x' k' => hp v σ' as' H' Hs' r' (x2.trans (x4.trans x')) (k2.trans (k4.trans k'))
          | exc c p η5 =>
            obtain rfl : r = .exc c p η5 := (Option.some.inj e3).symm
            exact fun u dx σ' as' H' Hs' r' hX x' k' => hp u dx σ' as' H' Hs' r' hX (x2.trans (x4.trans x')) (k2.trans (k4.trans k'))
    · have e : i = ys.length := by omega
      subst e
      rw [List.drop_length] at e3
      obtain rfl : r = .ok .next η2 := (Option.some.inj e3).symm
      refine .inl ⟨it.stop as2 H2 Hs2 r2.le c2, ?_⟩
      rw [← it.lp, List.drop_length, it.lp, ← it.lt, List.drop_length] at r2
      exact hp σ2 as2 H2 Hs2 r2 x2 k2
  · exact hwh η σ as H Hs _ _ hR e1 (PostX.toS hp)

def itemsL : Val → Option (List Val)
  | .sh (.lst ds) => some (ds.map .sh)
  | .ol xs => some xs
  | _ => none
/-- a list at a: shared, or laid aside -/
def CL (K : PySem.W.Frag) (a : Addr) (vs : List V) : List Addr → Hp → Hp → Prop := fun as H Hs => SqL K Hs a vs ∨ (H a = some (.lst vs) ∧ a ∉ as)
def CT (K : PySem.W.Frag) (a : Addr) (vs : List V) : List Addr → Hp → Hp → Prop := fun _ _ Hs => Hs a = some (.tup vs)
theorem CL.stable {K : PySem.W.Frag} {a : Addr} {vs : List V} {as as' : List Addr} {H Hs H' Hs' : Hp} (c : CL K a vs as H Hs) (x : Ext as H Hs as' H' Hs') : CL K a vs as' H' Hs' := by
  rcases c with c | ⟨c, n⟩
  · exact .inl (SqL.le c x.grow.le)
  · refine .inr ⟨x.keep a _ c n, fun z => ?_⟩
    rcases x.anew a z with z | z
    · exact n z
    · rw [c] at z
      cases z
theorem CT.stable {K : PySem.W.Frag} {a : Addr} {vs : List V} {as as' : List Addr} {H Hs H' Hs' : Hp} (c : CT K a vs as H Hs) (x : Ext as H Hs as' H' Hs') : CT K a vs as' H' Hs' := x.grow _ _ c
theorem CL.sq {K : PySem.W.Frag} {a : Addr} {vs : List V} {as : List Addr} {H Hs : Hp} (c : CL K a vs as H Hs) (s : Le Hs H) : SqL K H a vs := by
  rcases c with c | ⟨c, n⟩
  · exact SqL.le c s
  · exact SqL.of c
theorem CT.sq {K : PySem.W.Frag} {a : Addr} {vs : List V} {as : List Addr} {H Hs : Hp} (c : CT K a vs as H Hs) (s : Le Hs H) : SqT K H a vs := SqT.of (s.keep c IsDO.tup)
theorem it_list {G : Gc} {a : Addr} {vs : List V} {ys : List Val} (hl : vs.length = ys.length) : ItOk G (Itl G.K a) (ys.map some) (vs.map some) ys (CL G.K a vs) where
  lp := List.length_map _
  lt := by rw [List.length_map, hl]
  stable := fun _ _ _ _ _ _ c x => c.stable x
  go := fun i as H Hs s c hi => ⟨vs, vs[i]'(by omega), c.sq s, by rw [List.getElem?_eq_getElem]⟩
  stop := fun as H Hs s c => ⟨vs, c.sq s, by omega⟩
  yld := fun i as H Hs x H2 y s tp c ey hy => by
    obtain ⟨rfl, hx⟩ := hy
    refine .inl ⟨by rw [List.getElem?_map, ey]; rfl, by rw [List.getElem?_map, hx vs (c.sq s)]; rfl, rfl⟩
theorem it_tup {G : Gc} {a : Addr} {vs : List V} {ys : List Val} (hl : vs.length = ys.length) : ItOk G (Itt G.K a) (ys.map some) (vs.map some) ys (CT G.K a vs) where
  lp := List.length_map _
  lt := by rw [List.length_map, hl]
  stable := fun _ _ _ _ _ _ c x => c.stable x
  go := fun i as H Hs s c hi => ⟨vs, vs[i]'(by omega), c.sq s, by rw [List.getElem?_eq_getElem]⟩
  stop := fun as H Hs s c => ⟨vs, c.sq s, by omega⟩
  yld := fun i as H Hs x H2 y s tp c ey hy => by
    obtain ⟨rfl, hx⟩ := hy
    refine .inl ⟨by rw [List.getElem?_map, ey]; rfl, by rw [List.getElem?_map, hx vs (c.sq s)]; rfl, rfl⟩
theorem Rep.itemsL {G : Gc} {y : Val} {x : V} {η : Env} {σ : L2.St} {as : List Addr} {H Hs : Hp} {ys : List Val} (h : Rep G (some y :: η) (some x :: σ) as H Hs) (e : Wp.itemsL y = some ys) :
    ∃ a vs as', x = .ref a ∧ CL G.K a vs as' H Hs ∧ vs.length = ys.length ∧ Rep G (ys.map some ++ η) (vs.map some ++ σ) as' H Hs ∧ (∀ b ∈ as', b ∈ as) := by
  obtain ⟨w, σ', a1, a2, e1, rfl, p, q⟩ := h.env
  obtain ⟨e2, rfl⟩ := List.cons.inj e1
  obtain rfl : x = w := Option.some.inj e2
  cases y with
  | sh d =>
    cases d with
    | lst ds =>
      obtain rfl := Option.some.inj e
      obtain ⟨rfl, rd⟩ := RepV.sh_iff.mp p
      simp only [RepD] at rd
      obtain ⟨a, vs, rfl, sq, rds⟩ := rd
      have rs := RepVs.shs (H := H) rds
      refine ⟨a, vs, a2, rfl, .inl sq, by rw [List.length_map, rds.length], ⟨h.le, ?_, h.nd, h.off, h.tp⟩, fun b hb => hb⟩
      exact rs.slots.join q
    | _ => cases e
  | ol xs =>
    obtain rfl := Option.some.inj e
    simp only [RepV] at p
    obtain ⟨a, vs, bs, rfl, rfl, ha, rv⟩ := p
    have nd := List.nodup_cons.mp h.nd
    refine ⟨a, vs, bs ++ a2, rfl, .inr ⟨ha, nd.1⟩, rv.length.symm, ⟨h.le, rv.slots.join q, nd.2, fun b hb => h.off b (List.mem_cons_of_mem _ hb), h.tp⟩, fun b hb => List.mem_cons_of_mem _ hb⟩
  | _ => cases e
theorem Rep.itemsC {G : Gc} {y : Val} {x : V} {η : Env} {σ : L2.St} {as : List Addr} {H Hs : Hp} {ys : List Val} (h : Rep G (some y :: η) (some x :: σ) as H Hs) (e : itemsT y = some ys) :
    ∃ a vs as', x = .ref a ∧ CT G.K a vs as' H Hs ∧ vs.length = ys.length ∧ Rep G (ys.map some ++ η) (vs.map some ++ σ) as' H Hs ∧ (∀ b ∈ as', b ∈ as) := by
  obtain ⟨w, σ', a1, a2, e1, rfl, p, q⟩ := h.env
  obtain ⟨e2, rfl⟩ := List.cons.inj e1
  obtain rfl : x = w := Option.some.inj e2
  cases y with
  | sh d =>
    cases d with
    | tup ds =>
      obtain rfl := Option.some.inj e
      obtain ⟨rfl, rd⟩ := RepV.sh_iff.mp p
      simp only [RepD] at rd
      obtain ⟨a, vs, rfl, sq, rds⟩ := rd
      have rs := RepVs.shs (H := H) rds
      refine ⟨a, vs, a2, rfl, sq, by rw [List.length_map, rds.length], ⟨h.le, ?_, h.nd, h.off, h.tp⟩, fun b hb => hb⟩
      exact rs.slots.join q
    | _ => cases e
  | ot xs =>
    obtain rfl := Option.some.inj e
    simp only [RepV] at p
    obtain ⟨a, vs, rfl, ha, rv⟩ := p
    exact ⟨a, vs, a1 ++ a2, rfl, ha, rv.length.symm, ⟨h.le, rv.slots.join q, h.nd, h.off, h.tp⟩, fun b hb => hb⟩
  | _ => cases e
theorem PI.or {tg iter : Expr} {w1 w2 : TI} (h1 : PI X tg iter w1) (h2 : PI X tg iter w2) : PI X tg iter (fun σ H R => w1 σ H R ∨ w2 σ H R) :=
  ⟨fun pins s σ H R I h => h.elim (h1.run pins s σ H R I) (h2.run pins s σ H R I)⟩
def fSeqI (f : FO) : FI := fun η => bindR (f η) fun o η1 => match esc1 o η1 with
  | some (y, η2) => (match itemsL y with
    | some ys => okR ys η2
    | none => (match itemsT y with
      | some ys => okR ys η2
      | none => none))
  | none => none
theorem okI_seq {tg e : Expr} {f : FO} (ok : Cok M S k W X) (he : OkO M X W e f) : OkI M X W tg e (fSeqI f) := by
  obtain ⟨P, w, K, mg, base, C⟩ := M
  have emd := ok.md
  simp only [mdOf, Md.mk.injEq, and_true] at emd
  obtain ⟨rfl, rfl, rfl, rfl, rfl⟩ := emd
  obtain ⟨t, ht, hh⟩ := he
  refine ⟨_, PI.or (pi_list ht) (pi_tup ht), fun η σ as H Hs r R hR hf hp => ?_⟩
  rcases bindR_inv hf with ⟨o, η1, e1, e2⟩ | ⟨c, p, η1, e1, rfl⟩
  · cases e3 : esc1 o η1 with
    | none =>
      rw [e3] at e2
      cases e2
    | some q =>
      obtain ⟨y, η2⟩ := q
      rw [e3] at e2
      simp only at e2
      cases e4 : itemsL y with
      | some ys =>
        rw [e4] at e2
        obtain rfl : r = .ok ys η2 := (Option.some.inj e2).symm
        refine .inl (hh η σ as H Hs _ _ hR e1 fun v as' H' Hs' r1 l1 x1 => ?_)
        obtain ⟨as2, Hs2, r2, x2⟩ := esc1_ok (π := []) (τ := []) r1 rfl l1 e3
        obtain ⟨a, vs, as3, rfl, cl, hl, r3, m3⟩ := Rep.itemsL r2 e4
        exact ⟨a, rfl, ⟨vs, cl.sq r3.le⟩, hp _ _ _ _ as3 H' Hs2 (it_list hl) cl r3 ((x1.trans x2).less m3)⟩
      | none =>
        rw [e4] at e2
        simp only at e2
        cases e5 : itemsT y with
        | none =>
          rw [e5] at e2
          cases e2
        | some ys =>
          rw [e5] at e2
          obtain rfl : r = .ok ys η2 := (Option.some.inj e2).symm
          refine .inr (hh η σ as H Hs _ _ hR e1 fun v as' H' Hs' r1 l1 x1 => ?_)
          obtain ⟨as2, Hs2, r2, x2⟩ := esc1_ok (π := []) (τ := []) r1 rfl l1 e3
          obtain ⟨a, vs, as3, rfl, cl, hl, r3, m3⟩ := Rep.itemsC r2 e5
          exact ⟨a, rfl, ⟨vs, cl.sq r3.le⟩, hp _ _ _ _ as3 H' Hs2 (it_tup hl) cl r3 ((x1.trans x2).less m3)⟩
  · exact .inl (hh η σ as H Hs _ _ hR e1 hp)

def rngV (lo : Int) (n : Nat) : List Val := (List.range n).map fun i : Nat => .sh (.int (lo + i))
theorem rngV_len (lo : Int) (n : Nat) : (rngV lo n).length = n := by unfold rngV; rw [List.length_map, List.length_range]
theorem it_rng {G : Gc} {lo : Int} {n : Nat} : ItOk G (Itr lo n) (List.replicate n none) (List.replicate n none) (rngV lo n) (fun _ _ _ => True) where
  lp := by rw [List.length_replicate, rngV_len]
  lt := by rw [List.length_replicate, rngV_len]
  stable := fun _ _ _ _ _ _ _ _ => trivial
  go := fun i as H Hs s c hi => by rw [rngV_len] at hi; exact hi
  stop := fun as H Hs s c => by rw [rngV_len]; exact Nat.le_refl _
  yld := fun i as H Hs x H2 y s tp c ey hy => by
    obtain ⟨rfl, rfl⟩ := hy
    have hi : i < n := by
      have := (List.getElem?_eq_some_iff.mp ey).1
      rw [rngV_len] at this
      exact this
    have e : y = .sh (.int (lo + i)) := by
      unfold rngV at ey
      rw [List.getElem?_map, List.getElem?_range hi] at ey
      exact (Option.some.inj ey).symm
    subst e
    exact .inr ⟨by rw [List.getElem?_replicate, if_pos hi], Sub.refl, [], RepV.sh_iff.mpr ⟨rfl, by simp only [RepD]⟩, List.nodup_nil, fun _ z => nomatch z⟩
theorem Rep.nones {G : Gc} {η : Env} {σ : L2.St} {as : List Addr} {H Hs : Hp} (h : Rep G η σ as H Hs) : ∀ n, Rep G (List.replicate n none ++ η) (List.replicate n none ++ σ) as H Hs
  | 0 => h
  | n + 1 => RepO.none_top (Rep.nones h n)
def small62 (i : Int) : Bool := decide (-(2 ^ 62) ≤ i ∧ i < 2 ^ 62)
/-- the operands as data, so many of them -/
def dataR (na : Nat) (g : FL) (η : Env) : RO (List D) := bindR (g η) fun os η1 => if os.length = na then (match prepAll os η1 with
  | some (ds, η2) => okR ds η2
  | none => none) else none
def fRng1 (g : FL) : FI := fun η => bindR (dataR 1 g η) fun ds η2 => match ds with
  | [.int j] => if small62 j then okR (rngV 0 j.toNat) η2 else none
  | _ => none
def fRng2 (g : FL) : FI := fun η => bindR (dataR 2 g η) fun ds η2 => match ds with
  | [.int i, .int j] => if small62 i && small62 j then okR (rngV i (j - i).toNat) η2 else none
  | _ => none
theorem dataR_inv {na : Nat} {g : FL} {η : Env} {r : Res (List D)} (h : dataR na g η = some r) : (∃ os η1 ds η2, g η = some (.ok os η1) ∧ os.length = na ∧ prepAll os η1 = some (ds, η2) ∧ r = .ok ds η2) ∨ ∃ c p η1, g η = some (.exc c p η1) ∧ r = .exc c p η1 := by
  unfold dataR at h
  rcases bindR_inv h with ⟨os, η1, e1, e2⟩ | ⟨c, p, η1, e1, rfl⟩
  · by_cases hl : os.length = na
    · rw [if_pos hl] at e2
      cases e3 : prepAll os η1 with
      | none =>
        rw [e3] at e2
        cases e2
      | some q =>
        obtain ⟨ds, η2⟩ := q
        rw [e3] at e2
        exact .inl ⟨os, η1, ds, η2, e1, hl, e3, (Option.some.inj e2).symm⟩
    · rw [if_neg hl] at e2
      cases e2
  · exact .inr ⟨c, p, η1, e1, rfl⟩
theorem OkL.data {es : List Expr} {g : FL} (h : OkL M X W es g) : ∃ t, PA X es t ∧ ∀ η σ as H Hs (na : Nat) r (Q : List V → Hp → Prop), Rep M.G η σ as H Hs → dataR na g η = some r →
    (match r with
      | .ok ds η' => ∀ vs as' H' Hs', vs.length = na → Rep M.G η' σ as' H' Hs' → RepTs M.G H' Hs' ds vs → Ext as H Hs as' H' Hs' → Q vs H'
      | .exc c p η' => PostX M.G W σ as H Hs c p η') → t σ H Q := by
  obtain ⟨t, ht, hh⟩ := h
  refine ⟨t, ht, fun η σ as H Hs na r Q hR hf hp => ?_⟩
  rcases dataR_inv hf with ⟨os, η1, ds, η2, e1, hl, e3, rfl⟩ | ⟨c, p, η1, e1, rfl⟩
  · refine hh η σ as H Hs _ _ hR e1 fun vs as' H' Hs' r1 l1 x1 => ?_
    obtain ⟨as2, Hs2, r2, x2, t2⟩ := prep_ok r1 l1 e3
    exact hp vs as2 H' Hs2 (l1.length.trans hl) r2 t2 (x1.trans x2)
  · exact hh η σ as H Hs _ _ hR e1 hp
theorem RepTs.one {G : Gc} {H Hs : Hp} {d : D} {vs : List V} (h : RepTs G H Hs [d] vs) : ∃ v, vs = [v] ∧ RepT G H Hs d v := by
  obtain ⟨v, ws, rfl, h1, h2⟩ := h
  obtain rfl : ws = [] := h2
  exact ⟨v, rfl, h1⟩
theorem RepTs.two {G : Gc} {H Hs : Hp} {d e : D} {vs : List V} (h : RepTs G H Hs [d, e] vs) : ∃ v u, vs = [v, u] ∧ RepT G H Hs d v ∧ RepT G H Hs e u := by
  obtain ⟨v, ws, rfl, h1, h2⟩ := h
  obtain ⟨u, rfl, h3⟩ := RepTs.one h2
  exact ⟨v, u, rfl, h1, h3⟩
theorem gl_ok {x : Str} (ok : Cok M S k W X) (hg : S.sc.names.lookup x = some .globalImplicit) : Gl X x := by
  show X.env.scope.names.lookup _ = _
  rw [ok.sc]
  exact hg
theorem okI_rng1 {tg a : Expr} {g : FL} {p : Pos} (ok : Cok M S k W X) (hg : S.sc.names.lookup ("range" : Str) = some .globalImplicit) (hm : M.mg "range" = none) (ha : OkL M X W [a] g) (hs : noStar a = true) : OkI M X W tg (.Call (.Name "range" p) [a] [] pos) (fRng1 g) := by
  have hgl := gl_ok ok hg
  obtain ⟨P, w, K, mg, base, C⟩ := M
  have emd := ok.md
  simp only [mdOf, Md.mk.injEq, and_true] at emd
  obtain ⟨rfl, rfl, rfl, rfl, rfl⟩ := emd
  obtain ⟨t, ht, hh⟩ := ha.data
  refine ⟨_, pi_range1 hgl hm ht (star_cons hs), fun η σ as H Hs r R hR hf hp => ?_⟩
  rcases bindR_inv hf with ⟨ds, η1, e1, e2⟩ | ⟨c, p, η1, e1, rfl⟩
  · refine hh η σ as H Hs _ _ _ hR e1 fun vs as' H' Hs' l1 r1 t1 x1 => ?_
    rcases ds with _ | ⟨_ | _ | i | _ | _ | _ | _ | _, _ | ⟨_, _⟩⟩ <;> first | cases e2 | skip
    obtain ⟨v, rfl, t2⟩ := t1.one
    obtain rfl : v = .int i := t2
    simp only at e2
    by_cases h : small62 i = true
    · rw [if_pos h] at e2
      obtain rfl : r = .ok _ η1 := (Option.some.inj e2).symm
      have hb := of_decide_eq_true h
      exact ⟨i, rfl, hb.1, hb.2, hp _ _ _ _ as' H' Hs' it_rng trivial (r1.nones _) x1⟩
    · rw [if_neg h] at e2
      cases e2
  · exact hh η σ as H Hs _ _ _ hR e1 hp
def shItems (y : Val) : Option (List D) := (itemsL y).bind shAll
def numV : Nat → List D → List Val
  | _, [] => []
  | n, d :: ds => .ot [.sh (.int (n : Nat)), .sh d] :: numV (n + 1) ds
/-- a list of shared items at a -/
def CI (G : Gc) (a : Addr) (ds : List D) (vs : List V) : List Addr → Hp → Hp → Prop := fun as H Hs => CL G.K a vs as H Hs ∧ RepDs G Hs ds vs
theorem CI.stable {G : Gc} {a : Addr} {ds : List D} {vs : List V} {as as' : List Addr} {H Hs H' Hs' : Hp} (c : CI G a ds vs as H Hs) (x : Ext as H Hs as' H' Hs') : CI G a ds vs as' H' Hs' := ⟨c.1.stable x, RepDs.le c.2 x.grow.le⟩
def fEnum (g : FO) : FI := fun η => bindR (g η) fun o η1 => match esc1 o η1 with
  | some (y, η2) => (match shItems y with
    | some ds => okR (numV 0 ds) η2
    | none => none)
  | none => none
theorem shItems_inv {y : Val} {ds : List D} (h : shItems y = some ds) : itemsL y = some (ds.map .sh) := by
  unfold shItems at h
  simp only [Option.bind_eq_some_iff] at h
  obtain ⟨xs, h1, h2⟩ := h
  rw [h1, shAll_inv h2]
/-- the walked list laid aside -/
theorem Rep.aside {G : Gc} {y : Val} {x : V} {η : Env} {σ : L2.St} {as : List Addr} {H Hs : Hp} {ds : List D} (h : Rep G (some y :: η) (some x :: σ) as H Hs) (e : shItems y = some ds) :
    ∃ a vs as', x = .ref a ∧ CI G a ds vs as' H Hs ∧ ds.length = vs.length ∧ Rep G η σ as' H Hs ∧ (∀ b ∈ as', b ∈ as) := by
  obtain ⟨a, vs, as', e1, cl, hl, r, m⟩ := h.itemsL (shItems_inv e)
  obtain ⟨b1, b2, rfl, p, q⟩ := r.sub (by simp [hl])
  have rd := (RepO.vals p).shs_inv
  refine ⟨a, vs, b2, e1, ⟨?_, rd⟩, rd.length, q, fun b hb => m b (by simp [hb])⟩
  rcases cl with c | ⟨c, n⟩
  · exact .inl c
  · exact .inr ⟨c, fun z => n (by simp [z])⟩
end
end Wp
end
section
set_option Elab.async false
set_option linter.all false
set_option maxRecDepth 100000
namespace Wp
open PySem PySem.Spec PyProof.Rows L2

def WF : WX := fun _ _ _ _ => False
def tO (M : Md) (W : WX) (f : FO) : TE := fun σ H Q => ∃ η as Hs r, Rep M.G η σ as H Hs ∧ f η = some r ∧ PostO M.G W σ as H Hs Q r
def tT (M : Md) (W : WX) (f : FT) : TT := fun σ H Q => ∃ η as Hs r, Rep M.G η σ as H Hs ∧ f η = some r ∧ PostT M.G W σ as H Hs Q r
def tG (M : Md) (kp : List Nat) (f : FG) : TG := fun x σ H Q => ∃ (π : Env) (τ : L2.St) (η : Env) (as : List Addr) (Hs : Hp) (y : Val) (η1 : Env), Rep M.G (some y :: (π ++ η)) (some x :: (τ ++ σ)) as H Hs ∧ τ.length = π.length ∧ f y η = some η1 ∧
  ∀ σ1 as1, Rep M.G (π ++ η1) (τ ++ σ1) as1 H Hs → (∀ a ∈ as1, a ∈ as) → Kept kp σ σ1 → Q σ1 H
section
variable {M : Md} {X : Cx} {W : WX} {e : Expr} {kp : List Nat}
theorem OkO.canon {f : FO} (h : OkO M X W e f) : PE X e (tO M W f) := by
  obtain ⟨t, ht, hh⟩ := h
  exact ⟨fun pins s σ H Q I ⟨η, as, Hs, r, a, b, c⟩ => ht.run pins s σ H Q I (hh η σ as H Hs r Q a b c)⟩
theorem OkT.canon {f : FT} (h : OkT M X W e f) : PT X e (tT M W f) := by
  obtain ⟨t, ht, hh⟩ := h
  exact ⟨fun pins s σ H Q I ⟨η, as, Hs, r, a, b, c⟩ => ht.run pins s σ H Q I (hh η σ as H Hs r Q a b c)⟩
theorem OkG.canon {f : FG} (h : OkG M X kp e f) : PG X e (tG M kp f) := by
  obtain ⟨t, ht, hh⟩ := h
  exact ⟨fun pins s σ H v u Q I r ⟨π, τ, η, as, Hs, y, η1, a, b, c, d⟩ => ht.run pins s σ H v u Q I r (hh π τ η σ as H Hs y v η1 Q a b c d)⟩
theorem tO_frame {f : FO} {π η : Env} {τ σ : L2.St} {as : List Addr} {H Hs : Hp} {r : Res Opv} {Q : VK} (hR : Rep M.G (π ++ η) (τ ++ σ) as H Hs) (hl : τ.length = π.length) (hf : f η = some r)
    (hp : match r with
      | .ok o η' => ∀ v as' H' Hs', Rep M.G (π ++ (o.p :: η')) (τ ++ (some v :: σ)) as' H' Hs' → o.lnk σ v → Ext as H Hs as' H' Hs' → Q v H'
      | .exc c p η' => PostX M.G W σ as H Hs c p η') : tO M W f σ H Q := by
  obtain ⟨a1, a2, rfl, p, q⟩ := hR.sub hl
  have off : ∀ a ∈ a1, Hs a = none := fun a ha => hR.off a (by simp [ha])
  refine ⟨η, a2, Hs, r, q, hf, ?_⟩
  cases r with
  | ok o η' =>
    intro v as' H' Hs' hR' hk hx
    obtain ⟨r1, r2⟩ := Rep.frame p hR.nd off hR' hx
    exact hp v _ H' Hs' r1 hk r2
  | exc c pp η' =>
    intro v dx as' H' Hs' hR' hX hx
    exact hp v dx as' H' Hs' hR' hX (hx.more a1)
theorem tT_frame {f : FT} {π η : Env} {τ σ : L2.St} {as : List Addr} {H Hs : Hp} {r : Res Bool} {Q : Bool → Hp → Prop} (hR : Rep M.G (π ++ η) (τ ++ σ) as H Hs) (hl : τ.length = π.length) (hf : f η = some r)
    (hp : match r with
      | .ok b η' => ∀ as' H' Hs', Rep M.G (π ++ η') (τ ++ σ) as' H' Hs' → Ext as H Hs as' H' Hs' → Q b H'
      | .exc c p η' => PostX M.G W σ as H Hs c p η') : tT M W f σ H Q := by
  obtain ⟨a1, a2, rfl, p, q⟩ := hR.sub hl
  have off : ∀ a ∈ a1, Hs a = none := fun a ha => hR.off a (by simp [ha])
  refine ⟨η, a2, Hs, r, q, hf, ?_⟩
  cases r with
  | ok o η' =>
    intro as' H' Hs' hR' hx
    obtain ⟨r1, r2⟩ := Rep.frame p hR.nd off hR' hx
    exact hp _ H' Hs' r1 r2
  | exc c pp η' =>
    intro v dx as' H' Hs' hR' hX hx
    exact hp v dx as' H' Hs' hR' hX (hx.more a1)
end

def wipeE (η : Env) : List Nat → Env
  | [] => η
  | v :: vs => (wipeE η vs).set v none
/-- one slot forgotten, whatever stands there -/
theorem Rep.drop1 {G : Gc} {π η : Env} {τ σ : L2.St} {as : List Addr} {H Hs : Hp} (h : Rep G (π ++ η) (τ ++ σ) as H Hs) (hl : τ.length = π.length) (i : Nat) (u : Option V) : ∃ as', Rep G (π ++ η.set i none) (τ ++ σ.set i u) as' H Hs ∧ ∀ a ∈ as', a ∈ as := by
  by_cases hi : i < η.length
  · obtain ⟨b1, b2, rfl, p, q⟩ := h.sub hl
    obtain ⟨a1, a2, a3, e, r⟩ := RepO.store i none u [] q.env hi rfl
    subst e
    have m : ∀ a ∈ a1 ++ ([] ++ a3), a ∈ a1 ++ (a2 ++ a3) := fun a ha => by
      have : a ∈ a1 ∨ a ∈ a3 := by simpa using ha
      rcases this with z | z <;> simp [z]
    refine ⟨b1 ++ (a1 ++ ([] ++ a3)), ⟨h.le, p.join r, ?_, fun a ha => ?_, h.tp⟩, fun a ha => ?_⟩
    · refine List.Nodup.sublist ?_ h.nd
      exact List.Sublist.append (List.Sublist.refl _) (List.Sublist.append (List.Sublist.refl _) (by rw [List.nil_append]; exact List.sublist_append_right _ _))
    · refine h.off a ?_
      rcases List.mem_append.mp ha with z | z
      · simp [z]
      · exact List.mem_append_right _ (m a z)
    · rcases List.mem_append.mp ha with z | z
      · simp [z]
      · exact List.mem_append_right _ (m a z)
  · have l2 : η.length = σ.length := by
      have := h.env.length
      simp only [List.length_append] at this
      omega
    rw [List.set_eq_of_length_le (by omega), List.set_eq_of_length_le (by omega)]
    exact ⟨as, h, fun a ha => ha⟩
theorem Rep.wipe {G : Gc} {π : Env} {τ : L2.St} {H Hs : Hp} (hl : τ.length = π.length) : ∀ (vs : List Nat) {η : Env} {σ : L2.St} {as : List Addr}, Rep G (π ++ η) (τ ++ σ) as H Hs → ∃ as', Rep G (π ++ wipeE η vs) (τ ++ L2.wipe σ vs) as' H Hs ∧ ∀ a ∈ as', a ∈ as
  | [], η, σ, as, h => ⟨as, h, fun _ z => z⟩
  | v :: vs, η, σ, as, h => by
    obtain ⟨as1, r1, m1⟩ := Rep.wipe hl vs h
    obtain ⟨as2, r2, m2⟩ := r1.drop1 hl v none
    exact ⟨as2, r2, fun a ha => m1 a (m2 a ha)⟩
/-- forgotten slots need nothing -/
theorem Rep.unwipe {G : Gc} {π : Env} {τ : L2.St} {H Hs : Hp} (hl : τ.length = π.length) : ∀ (vs : List Nat) {η : Env} {σ : L2.St} {as : List Addr}, Rep G (π ++ η) (τ ++ L2.wipe σ vs) as H Hs → (∀ i ∈ vs, ∀ x, η[i]? ≠ some (some x)) → Rep G (π ++ η) (τ ++ σ) as H Hs
  | [], η, σ, as, h, _ => h
  | v :: vs, η, σ, as, h, hn => by
    refine Rep.unwipe hl vs ?_ fun i hi => hn i (List.mem_cons_of_mem _ hi)
    have h : Rep G (π ++ η) (τ ++ (L2.wipe σ vs).set v none) as H Hs := h
    by_cases hv : v < (L2.wipe σ vs).length
    · obtain ⟨b1, b2, rfl, p, q⟩ := h.sub hl
      have lq : η.length = (L2.wipe σ vs).length := by rw [q.env.length, List.length_set]
      have ne : η[v]? = some none := by
        have hx := hn v (List.mem_cons_self ..)
        have : v < η.length := by omega
        rw [List.getElem?_eq_getElem this] at hx ⊢
        cases ez : η[v] with
        | none => rfl
        | some x => exact absurd (by rw [ez]) (hx x)
      obtain ⟨a1, a2, a3, e, r⟩ := RepO.store v none ((L2.wipe σ vs)[v]) [] q.env (by omega) rfl
      have es : η.set v none = η := by
        refine List.ext_getElem? fun j => ?_
        by_cases hj : j = v
        · subst hj
          rw [List.getElem?_set_self (by omega), ne]
        · rw [List.getElem?_set_ne (Ne.symm hj)]
      have et : ((L2.wipe σ vs).set v none).set v ((L2.wipe σ vs)[v]) = L2.wipe σ vs := by
        rw [List.set_set]
        exact List.set_getElem_self hv
      rw [es, et] at r
      subst e
      -- the owned part does not change: nothing stood there
      exact ⟨h.le, p.join (by
        have key : ∀ {η : Env} {σ : L2.St} {as : List Addr} {i : Nat} {u : Option V}, RepO G H Hs η σ as → η[i]? = some none → RepO G H Hs η (σ.set i u) as := by
          intro η
          induction η with
          | nil => intro σ as i u _ e; simp at e
          | cons z η ih =>
            intro σ as i u h e
            cases z with
            | none =>
              obtain ⟨s, σ', rfl, r⟩ := h
              cases i with
              | zero => exact ⟨u, σ', rfl, r⟩
              | succ i => exact ⟨s, σ'.set i u, rfl, ih r (by simpa using e)⟩
            | some x =>
              obtain ⟨v, σ', b1, b2, rfl, rfl, rv, r⟩ := h
              cases i with
              | zero => simp at e
              | succ i => exact ⟨v, σ'.set i u, b1, b2, rfl, rfl, rv, ih r (by simpa using e)⟩
        have := key (u := (L2.wipe σ vs)[v]) q.env ne
        rwa [et] at this), h.nd, h.off, h.tp⟩
    · rw [List.set_eq_of_length_le (by omega)] at h
      exact h
theorem wipeE_none (η : Env) : ∀ (vs : List Nat) (i : Nat), i ∈ vs → ∀ x, (wipeE η vs)[i]? ≠ some (some x)
  | v :: vs, i, hi, x => by
    unfold wipeE
    by_cases e : v = i
    · subst e
      by_cases hv : v < (wipeE η vs).length
      · rw [List.getElem?_set_self hv]
        intro z
        cases z
      · rw [List.getElem?_eq_none (by simpa using hv)]
        intro z
        cases z
    · rw [List.getElem?_set_ne e]
      rcases List.mem_cons.mp hi with z | z
      · exact absurd z.symm e
      · exact wipeE_none η vs i z x
theorem wipe_get (σ : L2.St) : ∀ (vs : List Nat) (i : Nat), i ∉ vs → (L2.wipe σ vs)[i]? = σ[i]?
  | [], i, _ => rfl
  | v :: vs, i, hi => by
    unfold L2.wipe
    simp only [List.mem_cons, not_or] at hi
    rw [List.getElem?_set_ne (Ne.symm hi.1), wipe_get σ vs i hi.2]
theorem wipe_at (σ : L2.St) : ∀ (vs : List Nat) (i : Nat), i ∈ vs → i < σ.length → (L2.wipe σ vs)[i]? = some none
  | v :: vs, i, hi, hl => by
    unfold L2.wipe
    by_cases e : v = i
    · subst e
      rw [List.getElem?_set_self (by rw [wipe_length]; exact hl)]
    · rw [List.getElem?_set_ne e]
      rcases List.mem_cons.mp hi with z | z
      · exact absurd z.symm e
      · exact wipe_at σ vs i z hl
theorem wipe_eq {σ σ' : L2.St} {vs : List Nat} (hl : σ.length = σ'.length) (h : ∀ i, i < σ.length → i ∉ vs → σ[i]? = σ'[i]?) : L2.wipe σ vs = L2.wipe σ' vs := by
  refine List.ext_getElem? fun i => ?_
  by_cases hi : i < σ.length
  · by_cases hv : i ∈ vs
    · rw [wipe_at σ vs i hv hi, wipe_at σ' vs i hv (by omega)]
    · rw [wipe_get σ vs i hv, wipe_get σ' vs i hv, h i hi hv]
  · rw [List.getElem?_eq_none (by rw [wipe_length]; omega), List.getElem?_eq_none (by rw [wipe_length]; omega)]
theorem wipe_wipe (σ : L2.St) (vs : List Nat) : L2.wipe (L2.wipe σ vs) vs = L2.wipe σ vs := by
  refine wipe_eq (wipe_length σ vs) fun i hi hv => wipe_get σ vs i hv

theorem Rep.append {G : Gc} {π : Env} {τ : L2.St} {z : Val} {zv : V} {acc : List Val} {a : Addr} {η : Env} {σ : L2.St} {as : List Addr} {H Hs : Hp} (h : Rep G (π ++ (some (.ol acc) :: some z :: η)) (τ ++ (some (.ref a) :: some zv :: σ)) as H Hs) (hl : τ.length = π.length) :
    ∃ vs, H a = some (.lst vs) ∧ vs.length = acc.length ∧ ∃ as', Rep G (π ++ (some (.ol (acc ++ [z])) :: η)) (τ ++ (some (.ref a) :: σ)) as' (upd H a (.lst (vs ++ [zv]))) Hs ∧ Ext as H Hs as' (upd H a (.lst (vs ++ [zv]))) Hs := by
  obtain ⟨b1, b2, rfl, p, q⟩ := h.sub hl
  obtain ⟨ra, σ'', c3, c4, e2, rfl, rl, q1⟩ := q.env
  obtain ⟨e2h, rfl⟩ := List.cons.inj e2
  obtain rfl := Option.some.inj e2h
  obtain ⟨zv', σ', c1, c5, e1, rfl, rz, q2⟩ := q1
  obtain ⟨e1h, rfl⟩ := List.cons.inj e1
  obtain rfl := Option.some.inj e1h
  simp only [RepV] at rl
  obtain ⟨a', vs, bs, e3, rfl, ha, rs⟩ := rl
  obtain rfl := V.ref.inj e3
  have nd := h.nd
  -- every other owned address differs from a
  have na : ∀ b, b ∈ b1 ∨ b ∈ c1 ∨ b ∈ bs ∨ b ∈ c5 → b ≠ a := by
    intro b hb e
    subst e
    have := nd
    have n1 : b ∉ b1 := fun z => (List.nodup_append.mp this).2.2 b z b (by simp) rfl
    have n2 := (List.nodup_cons.mp (show (b :: (bs ++ (c1 ++ c5))).Nodup from (List.nodup_append.mp this).2.1)).1
    simp only [List.mem_append, not_or] at n2
    rcases hb with z | z | z | z
    · exact n1 z
    · exact n2.2.1 z
    · exact n2.1 z
    · exact n2.2.2 z
  have st : ∀ b, b ∈ b1 ∨ b ∈ c1 ∨ b ∈ bs ∨ b ∈ c5 → ∀ o, H b = some o → upd H a (.lst (vs ++ [zv])) b = some o := fun b hb o e => by
    rw [upd_ne (na b hb)]
    exact e
  have lk : ∀ {xs : List Val} {ws : List V} {l1 : List Addr} {x : Val} {w : V} {l2 : List Addr} {H Hs : Hp}, RepVs G H Hs xs ws l1 → RepV G H Hs x w l2 → RepVs G H Hs (xs ++ [x]) (ws ++ [w]) (l1 ++ l2) := by
    intro xs
    induction xs with
    | nil =>
      intro ws l1 x w l2 H Hs r1 r2
      obtain ⟨rfl, rfl⟩ := RepVs.nil_iff.mp r1
      have := RepVs.cons (G := G) (H := H) (Hs := Hs) r2 (RepVs.nil_iff.mpr ⟨rfl, rfl⟩)
      simpa using this
    | cons y xs ih =>
      intro ws l1 x w l2 H Hs r1 r2
      obtain ⟨u, us, m1, m2, rfl, rfl, p1, p2⟩ := r1.uncons
      have := RepVs.cons p1 (ih p2 r2)
      simpa [List.append_assoc] using this
  have len : vs.length = acc.length := by
    have : ∀ {xs : List Val} {ws : List V} {l1 : List Addr}, RepVs G H Hs xs ws l1 → ws.length = xs.length := by
      intro xs
      induction xs with
      | nil => intro ws l1 r; obtain ⟨rfl, _⟩ := RepVs.nil_iff.mp r; rfl
      | cons x xs ih => intro ws l1 r; obtain ⟨u, us, m1, m2, rfl, rfl, p1, p2⟩ := r.uncons; simp [ih p2]
    exact this rs
  have hsa : Hs a = none := h.off a (by simp)
  refine ⟨vs, ha, len, b1 ++ ((a :: (bs ++ c1)) ++ c5), ⟨fun b o e => ?_, RepO.join (p.stay (fun b hb o e => st b (.inl hb) o e) Le.refl) ?_, ?_, fun b hb => ?_, h.tp.upd (fun _ z => nomatch z)⟩, ⟨fun b o e nb => ?_, Sub.refl, fun b z => .inl z, fun b hb => .inl ?_⟩⟩
  · have hb : b ≠ a := fun z => by
      subst z
      rw [hsa] at e
      cases e
    rcases h.le b o e with z | ⟨ob, z1, z2⟩
    · exact .inl (by rw [upd_ne hb]; exact z)
    · exact .inr ⟨ob, z1, by rw [upd_ne hb]; exact z2⟩
  · refine ⟨.ref a, σ, a :: (bs ++ c1), c5, rfl, rfl, ?_, q2.stay (fun b hb o e => st b (.inr (.inr (.inr hb))) o e) Le.refl⟩
    simp only [RepV]
    exact ⟨a, vs ++ [zv], bs ++ c1, rfl, rfl, upd_same, lk (rs.stay (fun b hb o e => st b (.inr (.inr (.inl hb))) o e) Le.refl) (rz.stay (fun b hb o e => st b (.inr (.inl hb)) o e) Le.refl)⟩
  · simpa [List.append_assoc] using nd
  · refine h.off b ?_
    simp only [List.mem_append, List.mem_cons] at hb ⊢
    rcases hb with z | (z | z | z) | z <;> simp [z]
  · rw [upd_ne (fun z => nb (by simp [z]))]
    exact e
  · simp only [List.mem_append, List.mem_cons] at hb ⊢
    rcases hb with z | (z | z | z) | z <;> simp [z]
end Wp
end
section
set_option Elab.async false
set_option linter.all false
set_option maxRecDepth 100000
namespace Wp
open PySem PySem.Spec PyProof.Rows L2

def loopC (n : Nat) (vs : List Nat) (g : FG) (ft : FT) (fe : FO) : List Val → List Val → FO
  | [], acc, η => okR (.pend (.ol acc)) η
  | y :: ys, acc, η => match g y η with
    | none => none
    | some η1 => if η1.length = n then (match ft η1 with
      | some (.ok b η2) => if b = true then (match fe η2 with
          | some (.ok o η3) => (match esc1 o η3 with
            | some (z, η4) => if acc.length < sizeLine then loopC n vs g ft fe ys (acc ++ [z]) (wipeE η4 vs) else none
            | none => none)
          | _ => none)
        else loopC n vs g ft fe ys acc (wipeE η2 vs)
      | _ => none) else none
def fLc (n : Nat) (vs : List Nat) (f : FI) (g : FG) (ft : FT) (fe : FO) : FO := fun η => bindR (f η) fun ys η1 => if η1.length = n then loopC n vs g ft fe ys [] (wipeE η1 vs) else none
def kpB (n : Nat) (vs : List Nat) : List Nat := (List.range n).filter fun i => !vs.contains i
theorem kpB_mem {n : Nat} {vs : List Nat} {i : Nat} : i ∈ kpB n vs ↔ i < n ∧ i ∉ vs := by
  unfold kpB
  simp
theorem loopC_ok {n : Nat} {vs : List Nat} {g : FG} {ft : FT} {fe : FO} : ∀ {ys acc : List Val} {η : Env} {r : Res Opv}, loopC n vs g ft fe ys acc η = some r → ∃ xs η', r = .ok (.pend (.ol xs)) η'
  | [], acc, η, r, h => ⟨acc, η, (Option.some.inj h).symm⟩
  | y :: ys, acc, η, r, h => by
    simp only [loopC] at h
    split at h
    · cases h
    · split at h
      · split at h
        · split at h
          · split at h
            · split at h
              · split at h
                · exact loopC_ok h
                · cases h
              · cases h
            · cases h
          · exact loopC_ok h
        · cases h
      · cases h

section
variable {M : Md} {S : Sc} {k : Nat} {W : WX} {X : Cx} {pos : Pos}
theorem lc_sound {vs : List Nat} {n : Nat} {wi : TI} {f : FI} {g : FG} {ft : FT} {fe : FO} (hwi : ∀ η σ as H Hs r R, Rep M.G η σ as H Hs → f η = some r → PostI M.G W σ as H Hs R r → wi σ H R)
    {η : Env} {σ : L2.St} {as : List Addr} {H Hs : Hp} {r : Res Opv} {Q : VK} (hR : Rep M.G η σ as H Hs) (hf : fLc n vs f g ft fe η = some r) (hp : PostO M.G W σ as H Hs Q r) :
    tLc wi (tG M (kpB n vs) g) (tT M WF ft) (tO M WF fe) vs σ H Q := by
  unfold tLc
  rcases bindR_inv hf with ⟨ys, η1, e1, e2⟩ | ⟨c, p, η1, e1, rfl⟩
  rotate_left
  · exact hwi η σ as H Hs _ _ hR e1 hp
  refine hwi η σ as H Hs _ _ hR e1 fun J π τ C as1 H1 Hs1 it c1 r1 x1 D hD => ?_
  by_cases hn : η1.length = n
  rotate_left
  · rw [if_neg hn] at e2
    cases e2
  rw [if_pos hn] at e2
  have hl : τ.length = π.length := by rw [it.lp, it.lt]
  have hσ : σ.length = n := by
    have := r1.env.length
    simp only [List.length_append] at this
    omega
  obtain ⟨xs, ηf, rfl⟩ := loopC_ok e2
  -- the start
  have start : ∃ as2, Rep M.G (π ++ (some (.ol []) :: wipeE η1 vs)) (τ ++ (some (V.ref D) :: L2.wipe σ vs)) as2 (upd H1 D (.lst [])) Hs1 ∧ Ext as1 H1 Hs1 as2 (upd H1 D (.lst [])) Hs1 := by
    obtain ⟨as3, r3, m3⟩ := Rep.wipe hl vs r1
    obtain ⟨b1, b2, rfl, p, q⟩ := r3.sub hl
    obtain ⟨q2, x2⟩ := q.push (x := .ol []) (v := .ref D) (b := [D]) (H' := upd H1 D (.lst [])) (fun b o e => by rw [upd_ne (ne_of_none e hD)]; exact e) (by simp only [RepV]; exact ⟨D, [], [], rfl, rfl, upd_same, RepVs.nil_iff.mpr ⟨rfl, rfl⟩⟩) (by simp) (by simpa using hD) (addT_upd fun _ z => nomatch z)
    obtain ⟨r4, x4⟩ := Rep.frame p r3.nd (fun a ha => r3.off a (by simp [ha])) q2 x2
    exact ⟨_, r4, (Ext.refl.less m3).trans x4⟩
  obtain ⟨as2, r2, x2⟩ := start
  refine ⟨fun i m H2 => m = ys.length - i ∧ i ≤ ys.length ∧ ∃ (acc : List Val) (η2 : Env) (as2 : List Addr) (Hs2 : Hp), Rep M.G (π.drop i ++ (some (Val.ol acc) :: η2)) (τ.drop i ++ (some (V.ref D) :: L2.wipe σ vs)) as2 H2 Hs2 ∧ C as2 H2 Hs2 ∧ loopC n vs g ft fe (ys.drop i) acc η2 = some (.ok (.pend (.ol xs)) ηf) ∧ (∀ j ∈ vs, ∀ x, η2[j]? ≠ some (some x)) ∧ Ext as H Hs as2 H2 Hs2,
    ⟨ys.length, by simp, Nat.zero_le _, [], wipeE η1 vs, as2, Hs1, r2, it.stable _ _ _ _ _ _ c1 x2, e2, wipeE_none η1 vs, x1.trans x2⟩, ?_⟩
  rintro i m H2 ⟨rfl, hi, acc, η2, as2, Hs2, r2, c2, e3, hnone, x2⟩
  by_cases hlt : i < ys.length
  rotate_left
  · left
    obtain rfl : i = ys.length := by omega
    refine ⟨it.stop as2 H2 Hs2 r2.le c2, ?_⟩
    rw [List.drop_eq_nil_of_le (Nat.le_refl _)] at e3
    simp only [loopC, okR, Option.some.injEq, Res.ok.injEq, Opv.pend.injEq, Val.ol.injEq] at e3
    obtain ⟨rfl, rfl⟩ := e3
    rw [List.drop_eq_nil_of_le (by rw [it.lp]; exact Nat.le_refl _), List.drop_eq_nil_of_le (by rw [it.lt]; exact Nat.le_refl _)] at r2
    exact hp (V.ref D) as2 H2 Hs2 (Rep.unwipe (π := [some (Val.ol acc)]) (τ := [some (V.ref D)]) rfl vs r2 hnone) trivial x2
  refine .inr ⟨it.go i as2 H2 Hs2 r2.le c2 hlt, fun H' => ∃ (acc : List Val) (η' : Env) (as' : List Addr) (Hs' : Hp), Rep M.G (π.drop (i + 1) ++ (some (Val.ol acc) :: η')) (τ.drop (i + 1) ++ (some (V.ref D) :: L2.wipe σ vs)) as' H' Hs' ∧ C as' H' Hs' ∧ loopC n vs g ft fe (ys.drop (i + 1)) acc η' = some (.ok (.pend (.ol xs)) ηf) ∧ (∀ j ∈ vs, ∀ x, η'[j]? ≠ some (some x)) ∧ Ext as H Hs as' H' Hs',
    fun H' n => ⟨ys.length - (i + 1), by omega, rfl, hlt, n⟩, fun x H3 hy => ?_⟩
  rw [List.drop_eq_getElem_cons hlt] at e3
  simp only [loopC] at e3
  cases eg : g ys[i] η2 with
  | none =>
    rw [eg] at e3
    cases e3
  | some η3 =>
    rw [eg] at e3
    simp only at e3
    by_cases hn3 : η3.length = n
    rotate_left
    · rw [if_neg hn3] at e3
      cases e3
    rw [if_pos hn3] at e3
    obtain ⟨as3, Hs2, r3, x3⟩ := it.next hlt r2 c2 hy
    have hl' : (τ.drop (i + 1) ++ [some (V.ref D)]).length = (π.drop (i + 1) ++ [some (Val.ol acc)]).length := by rw [List.length_append, List.length_append, List.length_drop, List.length_drop, it.lp, it.lt]; rfl
    refine ⟨π.drop (i + 1) ++ [some (Val.ol acc)], τ.drop (i + 1) ++ [some (V.ref D)], η2, as3, Hs2, ys[i], η3, by simpa using r3, hl', eg, fun σ4 as4 r4 m4 k4 => ?_⟩
    have l4 : σ4.length = n := by
      have := r4.env.length
      simp only [List.length_append] at this hl'
      omega
    have hw : L2.wipe σ4 vs = L2.wipe σ vs := by
      rw [← wipe_wipe σ vs]
      refine wipe_eq (by rw [wipe_length]; omega) fun j hj hv => ?_
      exact k4 j (kpB_mem.mpr ⟨by omega, hv⟩)
    refine ⟨hw, ?_⟩
    have c4 : C as4 H3 Hs2 := it.stable _ _ _ _ _ _ c2 (x3.less m4)
    have x4 : Ext as H Hs as4 H3 Hs2 := x2.trans (x3.less m4)
    cases et : ft η3 with
    | none =>
      rw [et] at e3
      cases e3
    | some rt =>
      cases rt with
      | exc c p η4 =>
        rw [et] at e3
        cases e3
      | ok b η4 =>
        rw [et] at e3
        simp only at e3
        refine tT_frame r4 hl' et fun as5 H5 Hs5 r5 x5 => ?_
        have c5 : C as5 H5 Hs5 := it.stable _ _ _ _ _ _ c4 x5
        cases b with
        | false =>
          simp only [Bool.false_eq_true, if_false] at e3 ⊢
          obtain ⟨as6, r6, m6⟩ := Rep.wipe hl' vs r5
          rw [hw] at r6
          exact ⟨acc, wipeE η4 vs, as6, Hs5, by simpa using r6, it.stable _ _ _ _ _ _ c5 (Ext.refl.less m6), e3, wipeE_none η4 vs, (x4.trans x5).less m6⟩
        | true =>
          simp only [if_true] at e3 ⊢
          cases ee : fe η4 with
          | none =>
            rw [ee] at e3
            cases e3
          | some re =>
            cases re with
            | exc c p η5 =>
              rw [ee] at e3
              cases e3
            | ok o η5 =>
              rw [ee] at e3
              simp only at e3
              refine tO_frame r5 hl' ee fun v as6 H6 Hs6 r6 l6 x6 => ?_
              cases es : esc1 o η5 with
              | none =>
                rw [es] at e3
                cases e3
              | some q =>
                obtain ⟨z, η6⟩ := q
                rw [es] at e3
                simp only at e3
                by_cases hz : acc.length < sizeLine
                rotate_left
                · rw [if_neg hz] at e3
                  cases e3
                rw [if_pos hz] at e3
                obtain ⟨as7, Hs7, r7, x7⟩ := esc1_ok r6 hl' l6 es
                have r7' : Rep M.G (π.drop (i + 1) ++ (some (Val.ol acc) :: some z :: η6)) (τ.drop (i + 1) ++ (some (V.ref D) :: some v :: σ4)) as7 H6 Hs7 := by simpa using r7
                have hl1 : (τ.drop (i + 1)).length = (π.drop (i + 1)).length := by rw [List.length_drop, List.length_drop, it.lp, it.lt]
                obtain ⟨us, hD', lus, as8, r8, x8⟩ := r7'.append hl1
                refine ⟨us, hD', by omega, acc ++ [z], wipeE η6 vs, ?_⟩
                have hl2 : (τ.drop (i + 1) ++ [some (V.ref D)]).length = (π.drop (i + 1) ++ [some (Val.ol (acc ++ [z]))]).length := by rw [List.length_append, List.length_append, hl1]; rfl
                have r8' : Rep M.G ((π.drop (i + 1) ++ [some (Val.ol (acc ++ [z]))]) ++ η6) ((τ.drop (i + 1) ++ [some (V.ref D)]) ++ σ4) as8 (upd H6 D (.lst (us ++ [v]))) Hs7 := by simpa using r8
                obtain ⟨as9, r9, m9⟩ := Rep.wipe hl2 vs r8'
                rw [hw] at r9
                have xx := (x5.trans (x6.trans (x7.trans x8))).less m9
                exact ⟨as9, Hs7, by simpa using r9, it.stable _ _ _ _ _ _ c4 xx, e3, wipeE_none η6 vs, x4.trans xx⟩

def Sc.blk (S : Sc) (scope : Scope) : Sc := ⟨S.N, relS scope S.sc, fun x => scope.names.lookup x == some .cell⟩
theorem Cok.blk (ok : Cok M S k W X) (s : Shared) (H : Hp) (scope : Scope) (C : Addr) (cl : List (Str × Addr)) (fp : List Addr) : Cok M (S.blk scope) k WF (X.blk s H scope (compEnvC scope cl C X.env) fp) := by
  refine ⟨ok.md, ok.N, ?_, fun x h => h, ok.calm, ok.nd, ok.gd, ok.room, ?_, PassesOwn.never⟩
  · show relabel scope X.env = relS scope S.sc
    rw [← ok.sc]
    rfl
  · rintro u s' ⟨a, B, sI, pins, σ, H, cls, d, e, I, nb, up, sky, na, os, ag, w⟩
    exact w
def OkTs (M : Md) (X : Cx) (W : WX) (ifs : List Expr) (f : FT) : Prop :=
  ∃ t, PTs X ifs t ∧ ∀ η σ as H Hs r Q, Rep M.G η σ as H Hs → f η = some r → PostT M.G W σ as H Hs Q r → t σ H Q
theorem OkTs.canon {ifs : List Expr} {f : FT} (h : OkTs M X W ifs f) : PTs X ifs (tT M W f) := by
  obtain ⟨t, ht, hh⟩ := h
  exact ⟨fun pins s σ H Q I ⟨η, as, Hs, r, a, b, c⟩ => ht.run pins s σ H Q I (hh η σ as H Hs r Q a b c)⟩
def fYes : FT := fun η => okR true η
theorem okTs_nil : OkTs M X W [] fYes := by
  refine ⟨_, pts_nil, fun η σ as H Hs r Q hR hf hp => ?_⟩
  obtain rfl : r = .ok true η := (Option.some.inj hf).symm
  exact hp as H Hs hR Ext.refl
theorem okTs_one {c : Expr} {f : FT} (h : OkT M X W c f) : OkTs M X W [c] f := by
  obtain ⟨t, ht, hh⟩ := h
  exact ⟨t, pts_one ht, hh⟩
/-- a block's parts, in each of its contexts -/
def OkBk (M : Md) (S : Sc) (k : Nat) (scope : Scope) (vs : List Nat) (tg : Expr) (ifs : List Expr) (elt : Expr) (g : FG) (ft : FT) (fe : FO) : Prop :=
  ∀ X', Cok M (S.blk scope) k WF X' → OkG M X' (kpB S.N.length vs) tg g ∧ OkTs M X' WF ifs ft ∧ OkO M X' WF elt fe
theorem ok_lc {elt tg iter : Expr} {ifs : List Expr} {scope : Scope} {own : List (Str × Nat)} {f : FI} {g : FG} {ft : FT} {fe : FO} (ok : Cok M S k W X) (hi : OkI M X W tg iter f) (hb : blkC S.N S.sc scope own = true) (hk : OkBk M S k scope (own.map (·.2)) tg ifs elt g ft fe)
    (hs : noSet iter = true) : OkO M X W (.ListComp elt [⟨tg, iter, ifs, 0⟩] scope pos) (fLc S.N.length (own.map (·.2)) f g ft fe) := by
  obtain ⟨wi, hwi, hwh⟩ := hi
  refine ⟨_, pe_lc (own := own) ok.calm (by rw [ok.N]; exact ok.nd) hwi (by rw [ok.N, ok.sc]; exact blkOk_by hb) (fun s H C cl fp => (hk _ (ok.blk s H scope C cl fp)).1.canon) (fun s H C cl fp => (hk _ (ok.blk s H scope C cl fp)).2.1.canon) (fun s H C cl fp => (hk _ (ok.blk s H scope C cl fp)).2.2.canon) (set_no hs), fun η σ as H Hs r Q hR hf hp => ?_⟩
  exact lc_sound hwh hR hf hp
end
end Wp
end
section
set_option Elab.async false
set_option linter.all false
set_option maxRecDepth 100000
namespace Wp
open PySem PySem.Spec PyProof.Rows L2

def theta (kp : List Nat) : Nat → Nat → Env → Env
  | _, 0, _ => []
  | i, n + 1, [] => none :: theta kp (i + 1) n []
  | i, n + 1, x :: η => (if kp.contains i then x else none) :: theta kp (i + 1) n η
theorem theta_ok {G : Gc} {H Hs : Hp} {kp : List Nat} : ∀ {n i : Nat} {η : Env} {σ : L2.St} {vs : List V} {as : List Addr}, RepO G H Hs η σ as → vs.length = n → n ≤ η.length → (∀ j v, vs[j]? = some v → i + j ∈ kp → σ[j]? = some (some v)) →
    ∃ as', as'.Sublist as ∧ RepO G H Hs (theta kp i n η) (vs.map some) as'
  | 0, i, η, σ, vs, as, h, hl, _, _ => by
    obtain rfl : vs = [] := List.length_eq_zero_iff.mp hl
    exact ⟨[], List.nil_sublist _, rfl, rfl⟩
  | n + 1, i, [], σ, vs, as, h, hl, hn, _ => by simp at hn
  | n + 1, i, none :: η, σ, [], as, h, hl, hn, hk => by simp at hl
  | n + 1, i, some x :: η, σ, [], as, h, hl, hn, hk => by simp at hl
  | n + 1, i, none :: η, σ, v :: vs, as, h, hl, hn, hk => by
    obtain ⟨s, σ', rfl, r⟩ := h
    obtain ⟨as', m, r'⟩ := theta_ok (i := i + 1) r (by simpa using hl) (by simpa using hn) fun j u e hj => by
      have := hk (j + 1) u (by simpa using e) (by rw [← Nat.add_assoc, Nat.add_right_comm]; exact hj)
      simpa using this
    refine ⟨as', m, ?_⟩
    have e : theta kp i (n + 1) (none :: η) = none :: theta kp (i + 1) n η := by simp [theta]
    rw [e]
    exact ⟨some v, _, rfl, r'⟩
  | n + 1, i, some x :: η, σ, v :: vs, as, h, hl, hn, hk => by
    obtain ⟨u, σ', a1, a2, rfl, rfl, rv, r⟩ := h
    obtain ⟨as', m, r'⟩ := theta_ok (i := i + 1) r (by simpa using hl) (by simpa using hn) fun j u e hj => by
      have := hk (j + 1) u (by simpa using e) (by rw [← Nat.add_assoc, Nat.add_right_comm]; exact hj)
      simpa using this
    by_cases hi : i ∈ kp
    · have hv := hk 0 v rfl hi
      have e : theta kp i (n + 1) (some x :: η) = some x :: theta kp (i + 1) n η := by
        have : kp.contains i = true := by simpa using hi
        simp [theta, hi]
      have hv : u = v := by simpa using hv
      subst hv
      rw [e]
      exact ⟨a1 ++ as', List.Sublist.append (List.Sublist.refl _) m, u, _, a1, as', rfl, rfl, rv, r'⟩
    · have e : theta kp i (n + 1) (some x :: η) = none :: theta kp (i + 1) n η := by simp [theta, hi]
      rw [e]
      exact ⟨as', m.trans (List.sublist_append_right _ _), some v, _, rfl, r'⟩
/-- a def as data: its parameters, its slots, the parameters that are never stored to, whether its answer stays its own -/
def semF (n len : Nat) (kp : List Nat) (raw : Bool) (fb : FS) : FF := fun xs => match fb (xs.map some ++ List.replicate (len - xs.length) none) with
  | some (.ok (.ret x) η') => if n ≤ η'.length then some (.ok (if raw then x else .sh x.d) (theta kp 0 n η')) else none
  | some (.ok .next η') => if n ≤ η'.length then some (.ok (.sh .non) (theta kp 0 n η')) else none
  | some (.exc c p η') => if n ≤ η'.length then some (.exc c p (theta kp 0 n η')) else none
  | _ => none
theorem RepO.blanks {G : Gc} {H Hs : Hp} : ∀ n : Nat, RepO G H Hs (List.replicate n none) (List.replicate n none) []
  | 0 => ⟨rfl, rfl⟩
  | n + 1 => ⟨none, _, rfl, RepO.blanks n⟩
section
variable {M : Md} {k : Nat} {N ps : List Str} {qual x : Str} {params : Arguments} {body : List Stmt} {scope : Scope} {dvs : List V} {kws : List (Str × V)} {f : Addr} {fd : FuncData} {kp : List Nat} {raw : Bool} {fb : FS}
theorem Rep.thetas {G : Gc} {x : Option Val} {v : Option V} {η : Env} {σ : L2.St} {vs : List V} {n : Nat} {as : List Addr} {H Hs : Hp} (r : Rep G (x :: η) (v :: σ) as H Hs) (hl : vs.length = n) (hn : n ≤ η.length) (hk : ∀ i ∈ kp, i < n) (k : Kept kp (start N vs) σ) : ∃ as', Rep G (x :: theta kp 0 n η) (v :: vs.map some) as' H Hs ∧ ∀ a ∈ as', a ∈ as := by
  obtain ⟨b1, b2, rfl, p, q⟩ := Rep.sub (π := [x]) (τ := [v]) r rfl
  obtain ⟨as', m, r'⟩ := theta_ok (kp := kp) (i := 0) q.env hl hn fun j u e hj => by
    have hj' : j ∈ kp := by simpa using hj
    rw [k j hj']
    unfold L2.start
    have hlt : j < vs.length := (List.getElem?_eq_some_iff.mp e).1
    rw [List.getElem?_append_left (by simpa using hlt), List.getElem?_map, e]
    rfl
  exact ⟨b1 ++ as', ⟨r.le, RepO.join (π := [x]) (τ := [v]) p r', r.nd.sublist (List.Sublist.append (List.Sublist.refl _) m), fun a ha => r.off a ((List.Sublist.append (List.Sublist.refl b1) m).subset ha), r.tp⟩, fun a ha => (List.Sublist.append (List.Sublist.refl b1) m).subset ha⟩
theorem fn_body (F : FunD M.K x qual params body scope dvs kws f fd) (S : FnScope N ps scope) (hkp : (kp.all fun i => decide (i < ps.length)) = true) (hb : ∀ W X, Cok M ⟨N, scope, fun _ => true⟩ k W X → OkB M X W kp body fb) :
    FnG M.prog M.w M.K M.mg M.base (k + 1) f fd ps (spD M ps.length (semF ps.length N.length kp raw fb)) := by
  have hkp' : ∀ i ∈ kp, i < ps.length := by simpa using hkp
  refine FunD.fnG F S (fun vs H Q E h => h.1) fun cdv A outer s H vs Q E gd hr h => ?_
  have ok : Cok M ⟨N, scope, fun _ => true⟩ k (fun cls d _ H => E cls d H) (cxOf (L2.CX M.prog M.w) M.prog M.w M.K M.mg M.base N qual scope f cdv A outer s H E) := by
    refine ⟨by cases M; rfl, rfl, rfl, fun _ _ => rfl, rfl, S.nd, gd, hr, takes_of rfl rfl rfl rfl, passes_of rfl⟩
  obtain ⟨t, ht, hh⟩ := hb _ _ ok
  refine ⟨t, ht, ?_⟩
  obtain ⟨hl, xs, as, Hs, r, rp, e, hp⟩ := h
  have lx : xs.length = vs.length := by simpa using rp.env.length
  have rp' : Rep M.G (xs.map some ++ List.replicate (N.length - xs.length) none) (start N vs) as H Hs := by
    unfold L2.start
    rw [lx]
    exact ⟨rp.le, by simpa using rp.env.join (RepO.blanks _), rp.nd, rp.off, rp.tp⟩
  unfold semF at e
  cases eb : fb (xs.map some ++ List.replicate (N.length - xs.length) none) with
  | none =>
    rw [eb] at e
    cases e
  | some rb =>
    rw [eb] at e
    refine hh _ _ as H Hs rb _ rp' eb ?_
    cases rb with
    | exc c p η' =>
      simp only at e
      by_cases hn : ps.length ≤ η'.length
      · rw [if_pos hn] at e
        obtain rfl := (Option.some.inj e).symm
        intro u dx σ' as' H' Hs' r1 hX x1 k1
        obtain ⟨as2, r2, m2⟩ := Rep.thetas r1 hl hn hkp' k1
        exact hp u dx as2 H' Hs' r2 hX (x1.less m2)
      · rw [if_neg hn] at e
        cases e
    | ok w η' =>
      cases w with
      | next =>
        simp only at e
        by_cases hn : ps.length ≤ η'.length
        · rw [if_pos hn] at e
          obtain rfl := (Option.some.inj e).symm
          intro σ' as' H' Hs' r1 x1 k1
          obtain ⟨as2, r2, m2⟩ := Rep.thetas (r1.push_sh (d := .non) (v := .non) (by simp only [RepD])) hl hn hkp' k1
          exact hp .non as2 H' Hs' r2 (x1.less m2)
        · rw [if_neg hn] at e
          cases e
      | brk => cases e
      | cont => cases e
      | ret x =>
        simp only at e
        by_cases hn : ps.length ≤ η'.length
        · rw [if_pos hn] at e
          obtain rfl := (Option.some.inj e).symm
          intro v σ' as' H' Hs' r1 x1 k1
          cases raw with
          | true =>
            obtain ⟨as2, r2, m2⟩ := Rep.thetas r1 hl hn hkp' k1
            exact hp v as2 H' Hs' r2 (x1.less m2)
          | false =>
            obtain ⟨as3, Hs3, r3, x3, _⟩ := r1.freeze0
            obtain ⟨as2, r2, m2⟩ := Rep.thetas r3 hl hn hkp' k1
            exact hp v as2 H' Hs3 r2 ((x1.trans x3).less m2)
        · rw [if_neg hn] at e
          cases e
end
end Wp
end
section
set_option Elab.async false
set_option linter.all false
set_option maxRecDepth 100000
namespace Wp
open PySem PySem.Spec PyProof.Rows L2

def P1 (G : Gc) (r : V → Hp → VK → Prop) (g : D → Option Val) : Prop := ∀ d x, g d = some x → ∀ v H Hs Q, Le Hs H → RepT G H Hs d v → FreshQ G H Hs Q x → r v H Q
def P2 (G : Gc) (r : V → V → Hp → VK → Prop) (g : D → D → Option Val) : Prop := ∀ d e x, g d e = some x → ∀ v u H Hs Q, Le Hs H → RepT G H Hs d v → RepT G H Hs e u → FreshQ G H Hs Q x → r v u H Q
def p1 (g : D → Option Val) : List D → Option Val
  | [d] => g d
  | _ => none
def p2 (g : D → D → Option Val) : List D → Option Val
  | [d, e] => g d e
  | _ => none
theorem RepTs.uncons {G : Gc} {H Hs : Hp} {d : D} {ds : List D} {vs : List V} (h : RepTs G H Hs (d :: ds) vs) : ∃ v ws, vs = v :: ws ∧ RepT G H Hs d v ∧ RepTs G H Hs ds ws := h
theorem RepTs.nil' {G : Gc} {H Hs : Hp} {vs : List V} (h : RepTs G H Hs [] vs) : vs = [] := h
theorem prim1 {G : Gc} {r : V → Hp → VK → Prop} {g : D → Option Val} (h : P1 G r g) : PrimOk G (fun vs H Q => ∀ x, vs = [x] → r x H Q) (p1 g) := fun ds x vs H Hs Q e s t q a ea => by
  rcases ds with _ | ⟨d, _ | ⟨_, _⟩⟩
  · cases e
  · obtain ⟨v, ws, rfl, t1, t2⟩ := t.uncons
    obtain rfl := t2.nil'
    obtain rfl : v = a := by simpa using ea
    exact h d x e v H Hs Q s t1 q
  · cases e
theorem prim2 {G : Gc} {r : V → V → Hp → VK → Prop} {g : D → D → Option Val} (h : P2 G r g) : PrimOk G (fun vs H Q => ∀ x y, vs = [x, y] → r x y H Q) (p2 g) := fun ds x vs H Hs Q e s t q a b ea => by
  rcases ds with _ | ⟨d, _ | ⟨d2, _ | ⟨_, _⟩⟩⟩
  · cases e
  · cases e
  · obtain ⟨v, ws, rfl, t1, t2⟩ := t.uncons
    obtain ⟨v2, ws2, rfl, t3, t4⟩ := t2.uncons
    obtain rfl := t4.nil'
    obtain ⟨rfl, rfl⟩ : v = a ∧ v2 = b := by simpa using ea
    exact h d d2 x e v v2 H Hs Q s t1 t3 q
  · cases e
/-- lists of argument values -/
theorem primN {G : Gc} {r : List V → Hp → VK → Prop} {g : D → Option Val} (h : P1 G (fun v => r [v]) g) : PrimOk G r (p1 g) := fun ds x vs H Hs Q e s t q => by
  rcases ds with _ | ⟨d, _ | ⟨_, _⟩⟩
  · cases e
  · obtain ⟨v, ws, rfl, t1, t2⟩ := t.uncons
    obtain rfl := t2.nil'
    exact h d x e v H Hs Q s t1 q
  · cases e
theorem primN2 {G : Gc} {r : List V → Hp → VK → Prop} {g : D → D → Option Val} (h : P2 G (fun v u => r [v, u]) g) : PrimOk G r (p2 g) := fun ds x vs H Hs Q e s t q => by
  rcases ds with _ | ⟨d, _ | ⟨d2, _ | ⟨_, _⟩⟩⟩
  · cases e
  · cases e
  · obtain ⟨v, ws, rfl, t1, t2⟩ := t.uncons
    obtain ⟨v2, ws2, rfl, t3, t4⟩ := t2.uncons
    obtain rfl := t4.nil'
    exact h d d2 x e v v2 H Hs Q s t1 t3 q
  · cases e

section
variable {G : Gc} {H Hs : Hp} {Q : VK}
theorem FreshQ.bl {b : Bool} (q : FreshQ G H Hs Q (.sh (.bl b))) : Q (.bl b) H := q.sh (by simp only [RepD])
theorem FreshQ.int {i : Int} (q : FreshQ G H Hs Q (.sh (.int i))) : Q (.int i) H := q.sh (by simp only [RepD])
theorem FreshQ.str {i : Str} (q : FreshQ G H Hs Q (.sh (.str i))) : Q (.str i) H := q.sh (by simp only [RepD])
theorem FreshQ.non (q : FreshQ G H Hs Q (.sh .non)) : Q .non H := q.sh (by simp only [RepD])
theorem RepDs.shs {ds : List D} {vs : List V} (h : RepDs G Hs ds vs) (H : Hp) : RepVs G H Hs (ds.map .sh) vs [] := by
  induction ds generalizing vs with
  | nil =>
    rw [RepDs.nil_iff] at h
    exact RepVs.nil_iff.mpr ⟨h, rfl⟩
  | cons d ds ih =>
    obtain ⟨v, ws, rfl, p, q⟩ := h.uncons
    have := RepVs.cons (G := G) (H := H) (RepV.sh_iff.mpr ⟨rfl, p⟩) (ih q)
    simpa using this
theorem FreshQ.lst {ds : List D} {vs : List V} (q : FreshQ G H Hs Q (.ol (ds.map .sh))) (h : RepDs G Hs ds vs) (p : Addr) (np : H p = none) : Q (.ref p) (upd H p (.lst vs)) := by
  refine q.2 (.ref p) [p] _ (fun b o e => by rw [upd_ne (ne_of_none e np)]; exact e) ?_ (by simp) (by simpa using np)
  rw [addT_upd (o := .lst vs) (fun _ z => nomatch z)]
  simp only [RepV]
  exact ⟨p, vs, [], rfl, rfl, upd_same, h.shs _⟩
theorem FreshQ.tup {ds : List D} {vs : List V} (q : FreshQ G H Hs Q (.ot (ds.map .sh))) (h : RepDs G Hs ds vs) (p : Addr) (np : H p = none) : Q (.ref p) (upd H p (.tup vs)) := by
  refine q.2 (.ref p) [] _ (fun b o e => by rw [upd_ne (ne_of_none e np)]; exact e) ?_ (by simp) (fun a ha => nomatch ha)
  simp only [RepV]
  exact ⟨p, vs, rfl, addT_tup np upd_same, (RepDs.le h (addT_sub q.1).le).shs _⟩
/-- ints -/
def intsOf : List D → Option (List Int)
  | [] => some []
  | .int i :: ds => (intsOf ds).map (i :: ·)
  | _ :: _ => none
@[simp] theorem intsOf_map (ns : List Int) : intsOf (ns.map .int) = some ns := by
  induction ns with
  | nil => rfl
  | cons n ns ih => simp [intsOf, ih]
theorem intsOf_inv : ∀ {ds : List D} {ns : List Int}, intsOf ds = some ns → ds = ns.map .int
  | [], ns, h => by
    simp only [intsOf, Option.some.injEq] at h
    subst h
    rfl
  | d :: ds, ns, h => by
    cases d <;> simp only [intsOf, Option.map_eq_some_iff] at h <;> first | (cases h; done) | skip
    obtain ⟨ms, h1, rfl⟩ := h
    rw [intsOf_inv h1]
    rfl
theorem RepDs.ints {ns : List Int} {vs : List V} (h : RepDs G Hs (ns.map .int) vs) : vs = ns.map V.int := by
  induction ns generalizing vs with
  | nil => simpa [RepDs.nil_iff] using h
  | cons n ns ih =>
    obtain ⟨v, ws, rfl, p, q⟩ := RepDs.uncons h
    simp only [RepD] at p
    rw [p, ih q]
    rfl
theorem RepDs.ofInts (ns : List Int) : RepDs G Hs (ns.map .int) (ns.map V.int) := by
  induction ns with
  | nil => simp [RepDs.nil_iff]
  | cons n ns ih => exact RepDs.cons (by simp only [RepD]) ih
end

def mulOk (i j : Int) : Bool := !(decide (Builtin.Int.intBits i > shortFactorBits) && decide (Builtin.Int.intBits j > shortFactorBits) && Builtin.Int.intTooBig (Builtin.Int.intBits i + Builtin.Int.intBits j))
theorem mulOk_ok {i j : Int} (h : mulOk i j = true) : IntMulOk i j := by
  unfold mulOk at h
  unfold IntMulOk
  intro z
  rw [z] at h
  cases h
def gAdd : D → D → Option Val
  | .int i, .int j => some (.sh (.int (i + j)))
  | .str x, .str y => if x.length + y.length ≤ sizeLine then some (.sh (.str (x ++ y))) else none
  | .lst xs, .lst ys => if xs.length + ys.length ≤ sizeLine then some (.ol ((xs ++ ys).map .sh)) else none
  | .tup xs, .tup ys => if xs.isEmpty then none else if ys.isEmpty then none else if xs.length + ys.length ≤ sizeLine then some (.ot ((xs ++ ys).map .sh)) else none
  | _, _ => none
def gSub : D → D → Option Val
  | .int i, .int j => some (.sh (.int (i - j)))
  | _, _ => none
def gMul : D → D → Option Val
  | .int i, .int j => if mulOk i j then some (.sh (.int (i * j))) else none
  | _, _ => none
def gMod : D → D → Option Val
  | .int i, .int j => if j = 0 then none else some (.sh (.int (i.fmod j)))
  | _, _ => none
def gDiv : D → D → Option Val
  | .int i, .int j => if j = 0 then none else if j.natAbs.log2 < 9000 then some (.sh (.int (i.fdiv j))) else none
  | _, _ => none
def gPow : D → D → Option Val
  | .int i, .int j => if 0 ≤ j ∧ (Builtin.Int.intBits i : Int) * j ≤ 2 ^ 27 then some (.sh (.int (i ^ j.toNat))) else none
  | _, _ => none
def rCatL (K : PySem.W.Frag) : R2 := fun x y H Q => ∃ l b xs zs, x = .ref l ∧ y = .ref b ∧ SqL K H l xs ∧ SqL K H b zs ∧ xs.length + zs.length ≤ sizeLine ∧ ∀ p, H p = none → Q (.ref p) (upd H p (.lst (xs ++ zs)))
section
variable {X : Cx}
theorem op_catL : OpR X (binaryOp .Add) (rCatL X.K) := by
  intro pins s σ H x y v u Q I rx ry h
  obtain ⟨l, b, xs, zs, rfl, rfl, hH, hB, hz, q⟩ := h
  cases rx
  cases ry
  obtain ⟨its, r, ⟨o, n, ho, hc, _, hd⟩, hl⟩ := I.list hH
  obtain ⟨its2, r2, ⟨o2, n2, ho2, hc2, _, hd2⟩, hl2⟩ := I.list hB
  have l1 := r.length
  have l2 := r2.length
  obtain ⟨cls, dd, data, sl⟩ := o
  obtain ⟨cls2, dd2, data2, sl2⟩ := o2
  simp only at hc hd hc2 hd2
  subst hc hd hc2 hd2
  refine concat_meets ⟨_, ho, rfl⟩ ⟨_, ho2, rfl⟩ noFill_list_add seq_list_add PySem.F.slot_list_add PySem.F.entry_list_add (PySem.F.args_list_add_2 _ _) (list_addW l b its.toArray its2.toArray n n2 dd dd2 sl sl2 (by simp only [List.size_toArray]; omega)) ⟨ho, ho2, ?_⟩
  have ea : its.toArray ++ its2.toArray = (its ++ its2).toArray := by simp
  rw [ea]
  exact ⟨.ref _, _, I.lnew (t' := s.toks) (r.append r2) (by rw [List.length_append]; omega), rfl, q _ I.fresh⟩
def rAddX (K : PySem.W.Frag) : R2 := fun x y H Q => ((rI0 fun i j => .int (i + j)) x y H Q ∨ (∃ i j, x = .str i ∧ y = .str j ∧ i.length + j.length ≤ sizeLine ∧ Q (.str (i ++ j)) H)) ∨ (rCatL K x y H Q ∨ rCatT K x y H Q)
theorem op_addX : OpR X (binaryOp .Add) (rAddX X.K) := (op_add.or op_add_str).or (op_catL.or op_catT)
theorem op_mulX : OpR X (binaryOp .Mult) (rI (fun i j => mulOk i j = true) fun i j => .int (i * j)) := opI fun _ _ _ _ _ _ _ hc q => mul_int q (mulOk_ok hc)
theorem op_divX : OpR X (binaryOp .FloorDiv) (rI (fun _ j => j ≠ 0 ∧ j.natAbs.log2 < 9000) fun i j => .int (i.fdiv j)) := opI fun _ _ _ _ _ _ _ hc q => floordiv_int hc.1 q (.inl (PyProof.noPylong_of_log2 hc.2))
theorem op_powX : OpR X (binaryOp .Pow) (rI (fun i j => 0 ≤ j ∧ (Builtin.Int.intBits i : Int) * j ≤ 2 ^ 27) fun i j => .int (i ^ j.toNat)) := opI fun _ _ _ _ _ _ _ hc q => pow_int hc.1 hc.2 q
end
theorem P2.int {G : Gc} {c : Int → Int → Prop} {g : Int → Int → Int} {f : D → D → Option Val} (h : ∀ d e x, f d e = some x → ∃ i j, d = .int i ∧ e = .int j ∧ c i j ∧ x = .sh (.int (g i j))) : P2 G (rI c fun i j => .int (g i j)) f := fun d e x hx v u H Hs Q s t1 t2 q => by
  obtain ⟨i, j, rfl, rfl, hc, rfl⟩ := h d e x hx
  exact ⟨i, j, t1, t2, hc, q.int⟩
theorem p_sub {G : Gc} : P2 G (rI0 fun i j => .int (i - j)) gSub := fun d e x hx v u H Hs Q s t1 t2 q => by
  unfold gSub at hx
  split at hx
  · obtain rfl := Option.some.inj hx
    exact ⟨_, _, t1, t2, q.int⟩
  · cases hx
theorem p_mul {G : Gc} : P2 G (rI (fun i j => mulOk i j = true) fun i j => .int (i * j)) gMul := P2.int fun d e x hx => by
  unfold gMul at hx
  split at hx
  · split at hx
    · exact ⟨_, _, rfl, rfl, by assumption, (Option.some.inj hx).symm⟩
    · cases hx
  · cases hx
theorem p_mod {G : Gc} : P2 G (rI (fun _ j => j ≠ 0) fun i j => .int (i.fmod j)) gMod := P2.int fun d e x hx => by
  unfold gMod at hx
  split at hx
  · split at hx
    · cases hx
    · exact ⟨_, _, rfl, rfl, by assumption, (Option.some.inj hx).symm⟩
  · cases hx
theorem p_div {G : Gc} : P2 G (rI (fun _ j => j ≠ 0 ∧ j.natAbs.log2 < 9000) fun i j => .int (i.fdiv j)) gDiv := P2.int fun d e x hx => by
  unfold gDiv at hx
  split at hx
  · split at hx
    · cases hx
    · split at hx
      · exact ⟨_, _, rfl, rfl, ⟨by assumption, by assumption⟩, (Option.some.inj hx).symm⟩
      · cases hx
  · cases hx
theorem p_pow {G : Gc} : P2 G (rI (fun i j => 0 ≤ j ∧ (Builtin.Int.intBits i : Int) * j ≤ 2 ^ 27) fun i j => .int (i ^ j.toNat)) gPow := P2.int fun d e x hx => by
  unfold gPow at hx
  split at hx
  · split at hx
    · exact ⟨_, _, rfl, rfl, by assumption, (Option.some.inj hx).symm⟩
    · cases hx
  · cases hx
theorem p_add {G : Gc} : P2 G (rAddX G.K) gAdd := fun d e x hx v u H Hs Q s t1 t2 q => by
  unfold gAdd at hx
  split at hx
  · obtain rfl := Option.some.inj hx
    exact .inl (.inl ⟨_, _, t1, t2, q.int⟩)
  · split at hx
    · obtain rfl := Option.some.inj hx
      exact .inl (.inr ⟨_, _, t1, t2, by assumption, q.str⟩)
    · cases hx
  · rename_i xs ys
    split at hx
    · obtain rfl := Option.some.inj hx
      obtain ⟨a, vs, rfl, q1, r1⟩ := t1
      obtain ⟨b, us, rfl, q2, r2⟩ := t2
      refine .inr (.inl ⟨a, b, vs, us, rfl, rfl, q1, q2, by rw [← r1.length, ← r2.length]; assumption, fun p np => q.lst (r1.append r2) p np⟩)
    · cases hx
  · rename_i xs ys
    split at hx
    · cases hx
    · split at hx
      · cases hx
      · split at hx
        · obtain rfl := Option.some.inj hx
          obtain ⟨a, vs, rfl, q1, r1⟩ := t1
          obtain ⟨b, us, rfl, q2, r2⟩ := t2
          have n1 : vs ≠ [] := fun z => by
            have := r1.length
            rw [z] at this
            have : xs = [] := List.length_eq_zero_iff.mp this
            subst this
            simp at *
          have n2 : us ≠ [] := fun z => by
            have := r2.length
            rw [z] at this
            have : ys = [] := List.length_eq_zero_iff.mp this
            subst this
            simp at *
          exact .inr (.inr ⟨a, b, vs, us, rfl, rfl, SqT.of q1, SqT.of q2, n1, by rw [← r1.length, ← r2.length]; assumption, fun z => absurd z n2, fun _ p np => q.tup (r1.append r2) p np⟩)
        · cases hx
  · cases hx
section
variable {M : Md} {S : Sc} {k : Nat} {W : WX} {X : Cx} {a b c e : Expr} {fa fb fc : FO} {pos : Pos}
theorem ok_bin {op : Operator} {r : R2} {g : D → D → Option Val} (ho : OpR X (binaryOp op) r) (hp : P2 M.G r g) (ha : OkO M X W a fa) (hb : OkO M X W b fb) : OkO M X W (.BinOp a op b pos) (f2 fa fb (p2 g)) :=
  ok2 ha hb (prim2 hp) fun _ _ h1 h2 => pe_op ho h1 h2
theorem ok_add (ok : Cok M S k W X) (ha : OkO M X W a fa) (hb : OkO M X W b fb) : OkO M X W (.BinOp a .Add b pos) (f2 fa fb (p2 gAdd)) := by
  refine ok_bin op_addX ?_ ha hb
  have : M.K = X.K := by rw [← ok.md]; rfl
  rw [← this]
  exact p_add
theorem ok_sub (ha : OkO M X W a fa) (hb : OkO M X W b fb) : OkO M X W (.BinOp a .Sub b pos) (f2 fa fb (p2 gSub)) := ok_bin op_sub p_sub ha hb
theorem ok_mul (ha : OkO M X W a fa) (hb : OkO M X W b fb) : OkO M X W (.BinOp a .Mult b pos) (f2 fa fb (p2 gMul)) := ok_bin op_mulX p_mul ha hb
theorem ok_mod (ha : OkO M X W a fa) (hb : OkO M X W b fb) : OkO M X W (.BinOp a .Mod b pos) (f2 fa fb (p2 gMod)) := ok_bin op_modN p_mod ha hb
theorem ok_div (ha : OkO M X W a fa) (hb : OkO M X W b fb) : OkO M X W (.BinOp a .FloorDiv b pos) (f2 fa fb (p2 gDiv)) := ok_bin op_divX p_div ha hb
theorem ok_pow (ha : OkO M X W a fa) (hb : OkO M X W b fb) : OkO M X W (.BinOp a .Pow b pos) (f2 fa fb (p2 gPow)) := ok_bin op_powX p_pow ha hb
def gNeg : D → Option Val
  | .int i => some (.sh (.int (-i)))
  | _ => none
theorem ok_neg (ha : OkO M X W a fa) : OkO M X W (.UnaryOp .USub a pos) (f1 fa (p1 gNeg)) := by
  refine ok1 ha (prim1 (r := rU fun i => .int (-i)) fun d x hx v H Hs Q s t q => ?_) fun _ h1 => pe_un un_neg h1
  unfold gNeg at hx
  split at hx
  · obtain rfl := Option.some.inj hx
    exact ⟨_, t, q.int⟩
  · cases hx
end
end Wp
end
section
set_option Elab.async false
set_option linter.all false
set_option maxRecDepth 100000
namespace Wp
open PySem PySem.Spec PyProof.Rows L2

mutual
def toPy : D → Option PyData
  | .non => some .none
  | .bl b => some (.bool b)
  | .int i => some (.int i)
  | .str x => some (.str x)
  | .lst xs => (toPys xs).map .list
  | .tup xs => (toPys xs).map .tuple
  | .dict _ _ => none
  | .dt _ _ => none
  | .fn _ => none
  | .rng _ _ => none
  | .obj _ _ _ => none
def toPys : List D → Option (List PyData)
  | [] => some []
  | x :: xs => (toPy x).bind fun p => (toPys xs).bind fun ps => some (p :: ps)
end
section
variable {G : Gc} {H : Hp}
mutual
theorem RepD.dp : ∀ {d : D} {v : V} {p : PyData}, RepD G H d v → toPy d = some p → L2.Dp G.K H v p
  | .non, v, p, h, e => by
    simp only [RepD] at h
    simp only [toPy, Option.some.injEq] at e
    subst h e
    exact .non
  | .bl b, v, p, h, e => by
    simp only [RepD] at h
    simp only [toPy, Option.some.injEq] at e
    subst h e
    exact .bl b
  | .int i, v, p, h, e => by
    simp only [RepD] at h
    simp only [toPy, Option.some.injEq] at e
    subst h e
    exact .int i
  | .str x, v, p, h, e => by
    simp only [RepD] at h
    simp only [toPy, Option.some.injEq] at e
    subst h e
    exact .str x
  | .lst xs, v, p, h, e => by
    simp only [RepD] at h
    simp only [toPy, Option.map_eq_some_iff] at e
    obtain ⟨a, vs, rfl, q, r⟩ := h
    obtain ⟨ps, e1, rfl⟩ := e
    exact .lst q (RepDs.dp r e1)
  | .tup xs, v, p, h, e => by
    simp only [RepD] at h
    simp only [toPy, Option.map_eq_some_iff] at e
    obtain ⟨a, vs, rfl, q, r⟩ := h
    obtain ⟨ps, e1, rfl⟩ := e
    exact .tup (SqT.of q) (RepDs.dp r e1)
  | .dict _ _, v, p, h, e => by simp [toPy] at e
  | .dt _ _, v, p, h, e => by simp [toPy] at e
  | .fn _, v, p, h, e => by simp [toPy] at e
  | .rng _ _, v, p, h, e => by simp [toPy] at e
  | .obj _ _ _, v, p, h, e => by simp [toPy] at e
theorem RepDs.dp : ∀ {ds : List D} {vs : List V} {ps : List PyData}, RepDs G H ds vs → toPys ds = some ps → L2.DpAll G.K H vs ps
  | [], vs, ps, h, e => by
    rw [RepDs.nil_iff] at h
    simp only [toPys, Option.some.injEq] at e
    subst h e
    exact .nil
  | d :: ds, vs, ps, h, e => by
    obtain ⟨v, ws, rfl, p, q⟩ := h.uncons
    simp only [toPys, Option.bind_eq_some_iff, Option.some.injEq] at e
    obtain ⟨p1, e1, p2, e2, rfl⟩ := e
    exact .cons (RepD.dp p e1) (RepDs.dp q e2)
end
theorem RepT.dp {Hs : Hp} {d : D} {v : V} {p : PyData} (h : RepT G H Hs d v) (s : Le Hs H) (e : toPy d = some p) : L2.Dp G.K H v p := (h.full s).dp e
end

def eqC : D → D → Option Bool
  | .int i, .int j => some (decide (i = j))
  | .str x, .str y => some (decide (x = y))
  | .bl a, .bl b => some (decide (a = b))
  | .non, .non => some true
  | .non, .int _ => some false
  | .int _, .non => some false
  | .non, .str _ => some false
  | .str _, .non => some false
  | .non, .bl _ => some false
  | .bl _, .non => some false
  | .int _, .str _ => some false
  | .str _, .int _ => some false
  | d, e => (toPy d).bind fun p => (toPy e).bind fun q => if SeqAt.shaped p && SeqAt.shaped q then some (PyData.eqv p q) else none
def gEq (d e : D) : Option Val := (eqC d e).map fun b => .sh (.bl b)
def gNe (d e : D) : Option Val := (eqC d e).map fun b => .sh (.bl (!b))
def rEqX (K : PySem.W.Frag) : R2 := fun x y H Q => rEq x y H Q ∨ rEqD K x y H Q
def rNeX (K : PySem.W.Frag) : R2 := fun x y H Q => rNe x y H Q ∨ rNeD K x y H Q
theorem eqC_ok {G : Gc} {H Hs : Hp} {d e : D} {v u : V} {b : Bool} (h : eqC d e = some b) (s : Le Hs H) (t1 : RepT G H Hs d v) (t2 : RepT G H Hs e u) :
    (scal v u = true ∧ decide (v = u) = b) ∨ ∃ p q, L2.Dp G.K H v p ∧ L2.Dp G.K H u q ∧ SeqAt.shaped p = true ∧ SeqAt.shaped q = true ∧ PyData.eqv p q = b := by
  unfold eqC at h
  split at h
  all_goals first
    | (obtain rfl := Option.some.inj h
       obtain rfl := t1
       obtain rfl := t2
       left
       refine ⟨rfl, ?_⟩
       simp
       done)
    | skip
  · simp only [Option.bind_eq_some_iff, Option.ite_none_right_eq_some, Bool.and_eq_true, Option.some.injEq] at h
    obtain ⟨p, e1, q, e2, ⟨s1, s2⟩, e3⟩ := h
    exact .inr ⟨p, q, t1.dp s e1, t2.dp s e2, s1, s2, e3⟩
theorem p_eq {G : Gc} : P2 G (rEqX G.K) gEq := fun d e x hx v u H Hs Q s t1 t2 q => by
  unfold gEq at hx
  simp only [Option.map_eq_some_iff] at hx
  obtain ⟨b, hb, rfl⟩ := hx
  rcases eqC_ok hb s t1 t2 with ⟨h1, h2⟩ | ⟨p, p2, d1, d2, s1, s2, e3⟩
  · exact .inl ⟨h1, by rw [h2]; exact q.bl⟩
  · exact .inr ⟨p, p2, d1, d2, s1, s2, by rw [e3]; exact q.bl⟩
theorem p_ne {G : Gc} : P2 G (rNeX G.K) gNe := fun d e x hx v u H Hs Q s t1 t2 q => by
  unfold gNe at hx
  simp only [Option.map_eq_some_iff] at hx
  obtain ⟨b, hb, rfl⟩ := hx
  rcases eqC_ok hb s t1 t2 with ⟨h1, h2⟩ | ⟨p, p2, d1, d2, s1, s2, e3⟩
  · exact .inl ⟨h1, by rw [h2]; exact q.bl⟩
  · exact .inr ⟨p, p2, d1, d2, s1, s2, by rw [e3]; exact q.bl⟩
def gCmp (c : Int → Int → Bool) : D → D → Option Val
  | .int i, .int j => some (.sh (.bl (c i j)))
  | _, _ => none
theorem p_cmp {G : Gc} {c : Int → Int → Bool} : P2 G (rI0 fun i j => .bl (c i j)) (gCmp c) := fun d e x hx v u H Hs Q s t1 t2 q => by
  unfold gCmp at hx
  split at hx
  · obtain rfl := Option.some.inj hx
    exact ⟨_, _, t1, t2, q.bl⟩
  · cases hx
def gIsN (neg : Bool) : D → D → Option Val
  | d, .non => some (.sh (.bl (match d with | .non => !neg | _ => neg)))
  | _, _ => none
theorem p_isN {G : Gc} : P2 G (fun x y H Q => y = .non ∧ Q (.bl (decide (x = .non))) H) (gIsN false) := fun d e x hx v u H Hs Q s t1 t2 q => by
  unfold gIsN at hx
  split at hx
  · obtain rfl := Option.some.inj hx
    refine ⟨t2, ?_⟩
    cases d <;> simp only [RepT] at t1 <;> first
      | (subst t1; exact q.bl)
      | (obtain ⟨a, vs, rfl, _⟩ := t1; exact q.bl)
      | (obtain ⟨a, rfl, _⟩ := t1; exact q.bl)
      | (obtain ⟨a, dx, vs, rfl, _⟩ := t1; exact q.bl)
  · cases hx
section
variable {M : Md} {S : Sc} {k : Nat} {W : WX} {X : Cx} {a b c e : Expr} {fa fb fc : FO} {pos : Pos}
theorem ok2P {P : TE → Prop} {r : V → V → Hp → VK → Prop} {g : List D → Option Val} (ha : OkO M X W a fa) (hb : OkO M X W b fb) (pr : PrimOk M.G (fun vs H Q => ∀ x y, vs = [x, y] → r x y H Q) g)
    (he : ∀ ta tb, PE X a ta → PE X b tb → P (fun σ H Q => ta σ H fun x H1 => tb σ H1 fun y H2 => r x y H2 Q)) : ∃ t, P t ∧ ∀ η σ as H Hs res Q, Rep M.G η σ as H Hs → f2 fa fb g η = some res → PostO M.G W σ as H Hs Q res → t σ H Q := by
  obtain ⟨ta, hta, hha⟩ := ha
  obtain ⟨tb, htb, hhb⟩ := hb.framed
  refine ⟨_, he ta tb hta htb, fun η σ as H Hs res Q hR hf hp => ?_⟩
  rcases bindR_inv hf with ⟨o, η1, e1, e2⟩ | ⟨c, p, η1, e1, rfl⟩
  · refine hha η σ as H Hs _ _ hR e1 fun v as' H' Hs' r1 l1 x1 => ?_
    rcases bindR_inv e2 with ⟨o2, η2, e3, e4⟩ | ⟨c, p, η2, e3, rfl⟩
    · refine hhb [o.p] [some v] η1 σ as' H' Hs' _ _ r1 rfl e3 fun v2 as2 H2 Hs2 r2 l2 x2 => ?_
      exact app_ok pr (os := [o, o2]) (vs := [v, v2]) r2 ⟨v, [v2], rfl, l1, v2, [], rfl, l2, rfl⟩ (x1.trans x2) e4 hp v v2 rfl
    · refine hhb [o.p] [some v] η1 σ as' H' Hs' _ _ r1 rfl e3 fun v2 dx as2 H2 Hs2 r2 hX x2 => ?_
      exact hp v2 dx as2 H2 Hs2 r2 hX (x1.trans x2)
  · exact hha η σ as H Hs _ _ hR e1 hp
/-- a comparison, as a value and as a test -/
theorem ok_cmp {op : CmpOp} {r : R2} {g : D → D → Option Val} (ho : OpR X (compareOp op) r) (hm : behindInMarks op b = false) (hp : P2 M.G r g) (ha : OkO M X W a fa) (hb : OkO M X W b fb) : OkO M X W (.Compare a [op] [b] pos) (f2 fa fb (p2 g)) :=
  ok2 ha hb (prim2 hp) fun _ _ h1 h2 => pe_cmpR ho h1 h2 hm
theorem okT_cmp {op : CmpOp} {r : R2} {g : D → D → Option Val} (ho : OpR X (compareOp op) r) (hm : behindInMarks op b = false) (hp : P2 M.G r g) (ha : OkO M X W a fa) (hb : OkO M X W b fb) : OkT M X W (.Compare a [op] [b] pos) (fBl (f2 fa fb (p2 g))) := by
  obtain ⟨t, ⟨h1, h2⟩, hh⟩ := ok2P (P := fun t => PE X (.Compare a [op] [b] pos) t ∧ PT X (.Compare a [op] [b] pos) (tTest t)) (W := W) (r := r) ha hb (prim2 hp) fun _ _ h1 h2 => ⟨pe_cmpR ho h1 h2 hm, pt_cmpR ho h1 h2 hm⟩
  exact okT_of ⟨t, h1, h2, hh⟩
theorem Cok.K (ok : Cok M S k W X) : X.K = M.K := by rw [← ok.md]; rfl
theorem Cok.un (ok : Cok M S k W X) : X.A.units + 65 < cLine := by
  have := ok.room.un
  omega
theorem op_eqX (ok : Cok M S k W X) : OpR X (compareOp .Eq) (rEqX M.K) := by
  rw [← ok.K]
  exact op_eq.or (op_eqD (by have := ok.un; omega))
theorem op_neX (ok : Cok M S k W X) : OpR X (compareOp .NotEq) (rNeX M.K) := by
  rw [← ok.K]
  exact op_ne.or (op_neD (by have := ok.un; omega))
theorem ok_eq (ok : Cok M S k W X) (ha : OkO M X W a fa) (hb : OkO M X W b fb) : OkO M X W (.Compare a [.Eq] [b] pos) (f2 fa fb (p2 gEq)) := ok_cmp (op_eqX ok) (nomark _) p_eq ha hb
theorem okT_eq (ok : Cok M S k W X) (ha : OkO M X W a fa) (hb : OkO M X W b fb) : OkT M X W (.Compare a [.Eq] [b] pos) (fBl (f2 fa fb (p2 gEq))) := okT_cmp (op_eqX ok) (nomark _) p_eq ha hb
theorem okT_ne (ok : Cok M S k W X) (ha : OkO M X W a fa) (hb : OkO M X W b fb) : OkT M X W (.Compare a [.NotEq] [b] pos) (fBl (f2 fa fb (p2 gNe))) := okT_cmp (op_neX ok) (nomark _) p_ne ha hb
def cLt (i j : Int) : Bool := decide (i < j)
def cLe (i j : Int) : Bool := decide (i ≤ j)
def cGt (i j : Int) : Bool := decide (j < i)
def cGe (i j : Int) : Bool := decide (j ≤ i)
def cmpF : CmpOp → Int → Int → Bool
  | .Lt => cLt
  | .LtE => cLe
  | .Gt => cGt
  | .GtE => cGe
  | .Eq => fun i j => decide (i = j)
  | _ => fun _ _ => false
def isOrd : CmpOp → Bool
  | .Lt => true
  | .LtE => true
  | .Gt => true
  | .GtE => true
  | .Eq => true
  | _ => false
theorem op_eqI {X : Cx} : OpR X (compareOp .Eq) (rI0 fun i j => .bl (decide (i = j))) := by
  intro pins s σ H x y v u Q I rx ry h
  obtain ⟨i, j, rfl, rfl, q⟩ := h
  refine op_eq pins s σ H _ _ v u Q I rx ry ⟨rfl, ?_⟩
  have e : decide (V.int i = V.int j) = decide (i = j) := by simp
  rw [e]
  exact q
theorem op_ord {op : CmpOp} (h : isOrd op = true) : OpR X (compareOp op) (rI0 fun i j => .bl (cmpF op i j)) := by
  cases op <;> first | cases h | skip
  · exact op_eqI
  · exact op_lt
  · exact op_le
  · exact op_gt
  · exact op_ge
theorem ord_mark {op : CmpOp} (h : isOrd op = true) (b : Expr) : behindInMarks op b = false := nomark b (by cases op <;> simp_all [isOrd]) (by cases op <;> simp_all [isOrd])
theorem okT_ord {op : CmpOp} (h : isOrd op = true) (ha : OkO M X W a fa) (hb : OkO M X W b fb) : OkT M X W (.Compare a [op] [b] pos) (fBl (f2 fa fb (p2 (gCmp (cmpF op))))) := okT_cmp (op_ord h) (ord_mark h b) p_cmp ha hb
theorem okT_isN (ha : OkO M X W a fa) (hb : OkO M X W b fb) : OkT M X W (.Compare a [.Is] [b] pos) (fBl (f2 fa fb (p2 (gIsN false)))) := okT_cmp op_isN (nomark _) p_isN ha hb
def fChain (fa fb fc : FO) (c1 c2 : Int → Int → Bool) : FO := fun η => bindR (fa η) fun o η1 => bindR (fb η1) fun p η2 => match prepAll [o, p] η2 with
  | some ([.int i, .int j], η3) => if c1 i j then bindR (fc η3) fun q η4 => (match prepAll [q] η4 with
      | some ([.int l], η5) => okR (.pend (.sh (.bl (c2 j l)))) η5
      | _ => none)
    else okR (.pend (.sh (.bl false))) η3
  | _ => none
theorem chainP {P : TE → Prop} {op op' : CmpOp} (ha : OkO M X W a fa) (hb : OkO M X W b fb) (hc : OkO M X W c fc)
    (he : ∀ ta tb tc, PE X a ta → PE X b tb → PE X c tc → P (tChain (rI0 fun i j => .bl (cmpF op i j)) (rI0 fun i j => .bl (cmpF op' i j)) ta tb tc)) : ∃ t, P t ∧ ∀ η σ as H Hs res Q, Rep M.G η σ as H Hs → fChain fa fb fc (cmpF op) (cmpF op') η = some res → PostO M.G W σ as H Hs Q res → t σ H Q := by
  obtain ⟨ta, hta, hha⟩ := ha
  obtain ⟨tb, htb, hhb⟩ := hb.framed
  obtain ⟨tc, htc, hhc⟩ := hc
  refine ⟨_, he ta tb tc hta htb htc, fun η σ as H Hs res Q hR hf hp => ?_⟩
  rcases bindR_inv hf with ⟨o, η1, e1, e2⟩ | ⟨c, p, η1, e1, rfl⟩
  · refine hha η σ as H Hs _ _ hR e1 fun v as' H' Hs' r1 l1 x1 => ?_
    rcases bindR_inv e2 with ⟨o2, η2, e3, e4⟩ | ⟨c, p, η2, e3, rfl⟩
    · refine hhb [o.p] [some v] η1 σ as' H' Hs' _ _ r1 rfl e3 fun v2 as2 H2 Hs2 r2 l2 x2 => ?_
      cases ep : prepAll [o, o2] η2 with
      | none =>
        rw [ep] at e4
        cases e4
      | some q =>
        obtain ⟨ds, η3⟩ := q
        rw [ep] at e4
        obtain ⟨as3, Hs3, r3, x3, t3⟩ := prep_ok (os := [o, o2]) (vs := [v, v2]) r2 ⟨v, [v2], rfl, l1, v2, [], rfl, l2, rfl⟩ ep
        obtain ⟨d1, d2, rfl⟩ : ∃ d1 d2, ds = [d1, d2] := by
          rcases ds with _ | ⟨d1, _ | ⟨d2, _ | ⟨_, _⟩⟩⟩ <;> first | exact ⟨_, _, rfl⟩ | (simp at e4; done)
        obtain ⟨w1, ws1, z1, t4, t5⟩ := t3.uncons
        obtain ⟨rfl, rfl⟩ := List.cons.inj z1
        obtain ⟨w2, ws2, z2, t6, t7⟩ := t5.uncons
        obtain ⟨rfl, rfl⟩ := List.cons.inj z2
        cases d1 <;> first | cases e4 | skip
        cases d2 <;> first | cases e4 | skip
        rename_i i j
        simp only at e4
        obtain rfl : v = .int i := t4
        obtain rfl : v2 = .int j := t6
        refine ⟨i, j, rfl, rfl, cmpF op i j, rfl, ?_⟩
        by_cases hc1 : cmpF op i j = true
        · rw [if_pos hc1] at e4 ⊢
          rcases bindR_inv e4 with ⟨q, η4, e5, e6⟩ | ⟨c, p, η4, e5, rfl⟩
          · refine hhc η3 σ as3 H2 Hs3 _ _ r3 e5 fun v3 as4 H4 Hs4 r4 l4 x4 => ?_
            cases eq : prepAll [q] η4 with
            | none =>
              rw [eq] at e6
              cases e6
            | some q2 =>
              obtain ⟨ds2, η5⟩ := q2
              rw [eq] at e6
              obtain ⟨as5, Hs5, r5, x5, t8⟩ := prep_ok (os := [q]) (vs := [v3]) r4 ⟨v3, [], rfl, l4, rfl⟩ eq
              obtain ⟨d3, rfl⟩ : ∃ d3, ds2 = [d3] := by
                rcases ds2 with _ | ⟨d1, _ | ⟨_, _⟩⟩ <;> first | exact ⟨_, rfl⟩ | (simp at e6; done)
              obtain ⟨w3, ws3, z3, t9, _⟩ := t8.uncons
              obtain ⟨rfl, rfl⟩ := List.cons.inj z3
              cases d3 <;> first | (simp at e6; done) | skip
              rename_i l
              obtain rfl : v3 = .int l := t9
              obtain rfl : res = .ok (.pend (.sh (.bl (cmpF op' j l)))) η5 := (Option.some.inj e6).symm
              exact ⟨j, l, rfl, rfl, hp (.bl (cmpF op' j l)) _ _ _ (r5.push_sh (by simp only [RepD])) trivial (x1.trans (x2.trans (x3.trans (x4.trans x5))))⟩
          · exact hhc η3 σ as3 H2 Hs3 _ _ r3 e5 fun v2 dx as2 H2 Hs2 r2 hX xx => hp v2 dx as2 H2 Hs2 r2 hX (x1.trans (x2.trans (x3.trans xx)))
        · rw [if_neg hc1] at e4 ⊢
          obtain rfl : res = .ok (.pend (.sh (.bl false))) η3 := (Option.some.inj e4).symm
          exact hp (.bl false) _ _ _ (r3.push_sh (by simp only [RepD])) trivial (x1.trans (x2.trans x3))
    · refine hhb [o.p] [some v] η1 σ as' H' Hs' _ _ r1 rfl e3 fun v2 dx as2 H2 Hs2 r2 hX x2 => ?_
      exact hp v2 dx as2 H2 Hs2 r2 hX (x1.trans x2)
  · exact hha η σ as H Hs _ _ hR e1 hp
theorem ok_chain {op op' : CmpOp} (h : isOrd op = true) (h' : isOrd op' = true) (hm : lastMarks [op, op'] [b, c] = false) (ha : OkO M X W a fa) (hb : OkO M X W b fb) (hc : OkO M X W c fc) : OkO M X W (.Compare a [op, op'] [b, c] pos) (fChain fa fb fc (cmpF op) (cmpF op')) :=
  chainP ha hb hc fun _ _ _ h1 h2 h3 => pe_chain (op_ord h) (op_ord h') h1 h2 h3 hm
end
end Wp
end
section
set_option Elab.async false
set_option linter.all false
set_option maxRecDepth 100000
namespace Wp
open PySem PySem.Spec PyProof.Rows L2

section
variable {M : Md} {S : Sc} {k : Nat} {W : WX} {X : Cx} {a b c e : Expr} {es : List Expr} {fa fb fc : FO} {g : FL} {pos p : Pos} {x : Str}
/-- two readings, the data tell which -/
theorem OkO.or {f f' fq : FO} (h1 : OkO M X W e f) (h2 : OkO M X W e f') (h : ∀ η r, fq η = some r → f η = some r ∨ f' η = some r) : OkO M X W e fq := by
  obtain ⟨t1, p1, q1⟩ := h1
  obtain ⟨t2, p2, q2⟩ := h2
  refine ⟨fun σ H Q => t1 σ H Q ∨ t2 σ H Q, ⟨fun pins s σ H Q I hw => hw.elim (p1.run pins s σ H Q I) (p2.run pins s σ H Q I)⟩, fun η σ as H Hs r Q hR hf hp => ?_⟩
  rcases h η r hf with z | z
  · exact .inl (q1 η σ as H Hs r Q hR z hp)
  · exact .inr (q2 η σ as H Hs r Q hR z hp)
theorem f2_or {g g1 g2 : D → D → Option Val} (h : ∀ d e x, g d e = some x → g1 d e = some x ∨ g2 d e = some x) (η : Env) (r : Res Opv) (hf : f2 fa fb (p2 g) η = some r) : f2 fa fb (p2 g1) η = some r ∨ f2 fa fb (p2 g2) η = some r := by
  unfold f2 at hf ⊢
  rcases bindR_inv hf with ⟨o, η1, e1, e2⟩ | ⟨c, p, η1, e1, rfl⟩
  · rcases bindR_inv e2 with ⟨o2, η2, e3, e4⟩ | ⟨c, p, η2, e3, rfl⟩
    · rw [e1]
      simp only [bindR_some, e3]
      unfold appR at e4 ⊢
      cases ep : prepAll [o, o2] η2 with
      | none =>
        rw [ep] at e4
        cases e4
      | some q =>
        obtain ⟨ds, η3⟩ := q
        rw [ep] at e4
        simp only at e4 ⊢
        cases eg : p2 g ds with
        | none =>
          rw [eg] at e4
          cases e4
        | some y =>
          rw [eg] at e4
          obtain ⟨d1, d2, rfl⟩ : ∃ d1 d2, ds = [d1, d2] := by
            rcases ds with _ | ⟨d1, _ | ⟨d2, _ | ⟨_, _⟩⟩⟩ <;> first | exact ⟨_, _, rfl⟩ | (simp [p2] at eg; done)
          rcases h d1 d2 y eg with z | z
          · left
            simp only [p2, z]
            exact e4
          · right
            simp only [p2, z]
            exact e4
    · left
      rw [e1]
      simp only [bindR_some, e3, bindR_exc]
  · left
    rw [e1]
    simp only [bindR_exc]

def keyOf : D → Option Key
  | .int i => some (.inl i)
  | .str x => some (.inr x)
  | _ => none
/-- a tuple of ints and texts as a key -/
def keysOf : List D → Option (List Key)
  | [] => some []
  | x :: xs => (keyOf x).bind fun k => (keysOf xs).map fun ks => k :: ks
def keyTOf : D → Option (List Key)
  | .tup xs => keysOf xs
  | _ => none
def dget {κ : Type} [DecidableEq κ] (k : κ) : List κ → List D → Option D
  | k' :: ks, d :: ds => if k' = k then some d else dget k ks ds
  | _, _ => none
def gIx : D → D → Option Val
  | .lst xs, .int i => (atI xs i).map .sh
  | .tup xs, .int i => (atI xs i).map .sh
  | .str z, .int i => if z.length ≤ sizeLine then (atI z.cps.toList i).map fun c => .sh (.str ⟨#[c]⟩) else none
  | _, _ => none
def gDk : D → D → Option Val
  | .dict ks ds, e => (keyOf e).bind fun k => (dget k ks ds).map .sh
  | .dt ks ds, e => (keyTOf e).bind fun k => (dget k ks ds).map .sh
  | _, _ => none
def gSub2 (d e : D) : Option Val := match d with
  | .dict _ _ => gDk d e
  | .dt _ _ => gDk d e
  | _ => gIx d e
theorem atI_rep {G : Gc} {Hs : Hp} {ds : List D} {vs : List V} {i : Int} {d : D} (h : RepDs G Hs ds vs) (e : atI ds i = some d) : ∃ v, atI vs i = some v ∧ RepD G Hs d v := by
  unfold atI at e ⊢
  simp only [Option.bind_eq_some_iff] at e ⊢
  obtain ⟨j, e1, e2⟩ := e
  obtain ⟨v, e3, r⟩ := h.get e2
  exact ⟨v, ⟨j, by rw [← h.length]; exact e1, e3⟩, r⟩
theorem p_ix {G : Gc} : P2 G (rIx G.K) gIx := fun d e x hx v u H Hs Q s t1 t2 q => by
  unfold gIx at hx
  split at hx
  · simp only [Option.map_eq_some_iff] at hx
    obtain ⟨y, e1, rfl⟩ := hx
    obtain ⟨a, vs, rfl, q1, r1⟩ := t1
    obtain ⟨w, e2, r2⟩ := atI_rep r1 e1
    exact .inl ⟨a, vs, _, w, rfl, t2, q1, e2, q.sh r2⟩
  · simp only [Option.map_eq_some_iff] at hx
    obtain ⟨y, e1, rfl⟩ := hx
    obtain ⟨a, vs, rfl, q1, r1⟩ := t1
    obtain ⟨w, e2, r2⟩ := atI_rep r1 e1
    exact .inr (.inl ⟨a, vs, _, w, rfl, t2, SqT.of q1, e2, q.sh r2⟩)
  · split at hx
    · simp only [Option.map_eq_some_iff] at hx
      obtain ⟨y, e1, rfl⟩ := hx
      exact .inr (.inr ⟨_, _, y, t1, t2, by assumption, e1, q.str⟩)
    · cases hx
  · cases hx
theorem dget_val {κ : Type} [DecidableEq κ] {G : Gc} {Hs : Hp} {k : κ} : ∀ {ks : List κ} {ds : List D} {vs : List V} {d : D}, RepDs G Hs ds vs → dget k ks ds = some d → ∃ v, valV (ks.zip vs) k = some v ∧ RepD G Hs d v
  | [], ds, vs, d, h, e => by simp [dget] at e
  | k' :: ks, [], vs, d, h, e => by simp [dget] at e
  | k' :: ks, d' :: ds, vs, d, h, e => by
    obtain ⟨v, ws, rfl, p, q⟩ := h.uncons
    simp only [dget] at e
    by_cases hk : k' = k
    · rw [if_pos hk] at e
      obtain rfl := Option.some.inj e
      exact ⟨v, by rw [List.zip_cons_cons]; exact valV_pos hk, p⟩
    · rw [if_neg hk] at e
      obtain ⟨w, e1, r⟩ := dget_val q e
      exact ⟨w, by rw [List.zip_cons_cons, valV_neg hk]; exact e1, r⟩
def rDk : R2 := fun x y H Q => ∃ a v, x = .ref a ∧ DGet H a y (some v) ∧ Q v H
theorem keyOf_ok {G : Gc} {H Hs : Hp} {e : D} {u : V} {k : Key} (t : RepT G H Hs e u) (h : keyOf e = some k) : u = kV k := by
  unfold keyOf at h
  split at h
  · obtain rfl := Option.some.inj h
    exact t
  · obtain rfl := Option.some.inj h
    exact t
  · cases h
theorem keysOf_ok {G : Gc} {Hs : Hp} : ∀ {xs : List D} {vs : List V} {k : List Key}, RepDs G Hs xs vs → keysOf xs = some k → vs = k.map kV
  | [], vs, k, h, e => by
    rw [RepDs.nil_iff] at h
    simp only [keysOf, Option.some.injEq] at e
    subst h e
    rfl
  | x :: xs, vs, k, h, e => by
    obtain ⟨v, ws, rfl, p, q⟩ := h.uncons
    simp only [keysOf, Option.bind_eq_some_iff, Option.map_eq_some_iff] at e
    obtain ⟨k1, e1, k2, e2, rfl⟩ := e
    rw [List.map_cons, ← keysOf_ok q e2, ← keyOf_ok (p.top Le.refl) e1]
theorem keyTOf_ok {G : Gc} {H Hs : Hp} {e : D} {u : V} {k : List Key} (t : RepT G H Hs e u) (h : keyTOf e = some k) : ∃ b, u = .ref b ∧ H b = some (.tup (k.map kV)) := by
  unfold keyTOf at h
  split at h
  · obtain ⟨b, vs, rfl, q, r⟩ := t
    exact ⟨b, rfl, by rw [← keysOf_ok r h]; exact q⟩
  · cases h
theorem p_dk {G : Gc} : P2 G rDk gDk := fun d e x hx v u H Hs Q s t1 t2 q => by
  unfold gDk at hx
  split at hx
  · simp only [Option.bind_eq_some_iff, Option.map_eq_some_iff] at hx
    obtain ⟨k, e1, y, e2, rfl⟩ := hx
    obtain ⟨a, vs, rfl, q1, l, r1⟩ := t1
    obtain ⟨w, e3, r2⟩ := dget_val r1 e2
    exact ⟨a, w, rfl, .inl ⟨_, k, q1, keyOf_ok t2 e1, e3.symm⟩, q.sh r2⟩
  · simp only [Option.bind_eq_some_iff, Option.map_eq_some_iff] at hx
    obtain ⟨k, e1, y, e2, rfl⟩ := hx
    obtain ⟨a, vs, rfl, q1, l, r1⟩ := t1
    obtain ⟨w, e3, r2⟩ := dget_val r1 e2
    obtain ⟨b, rfl, hb⟩ := keyTOf_ok t2 e1
    exact ⟨a, w, rfl, .inr ⟨_, k, b, q1, rfl, hb, e3.symm⟩, q.sh r2⟩
  · cases hx
theorem ok_sub_ (ok : Cok M S k W X) (hb : PlainIx b) (ha : OkO M X W a fa) (hb2 : OkO M X W b fb) : OkO M X W (.Subscript a b pos) (f2 fa fb (p2 gSub2)) := by
  have h1 : OkO M X W (.Subscript a b pos) (f2 fa fb (p2 gIx)) := by
    refine ok2 (r := rIx M.K) ha hb2 (prim2 p_ix) fun _ _ z1 z2 => ?_
    rw [← ok.K]
    exact pe_ix ix_seq z1 z2 hb
  have h2 : OkO M X W (.Subscript a b pos) (f2 fa fb (p2 gDk)) := ok2 (r := rDk) ha hb2 (prim2 p_dk) fun _ _ z1 z2 => pe_dget (by have := ok.un; omega) z1 z2 hb
  refine h1.or h2 (f2_or fun d e x h => ?_)
  unfold gSub2 at h
  split at h
  · exact .inr h
  · exact .inr h
  · exact .inl h

def fPart (f : Option FO) : Env → RO (Option Int) := fun η => match f with
  | none => okR none η
  | some f => bindR (f η) fun o η1 => match prepAll [o] η1 with
    | some ([.int i], η2) => okR (some i) η2
    | _ => none
def OkP (M : Md) (X : Cx) (W : WX) (e : Option Expr) (f : Option FO) : Prop := match e, f with
  | none, none => True
  | some e, some f => OkO M X W e f
  | _, _ => False
def cutD (xs : List D) (lo hi : Option Int) : List D := (xs.drop (HT.sIx xs.length 0 lo)).take (HT.sIx xs.length xs.length hi - HT.sIx xs.length 0 lo)
def gSl (lo hi : Option Int) : D → Option Val
  | .lst xs => some (.ol ((cutD xs lo hi).map .sh))
  | .tup xs => if HT.sIx xs.length 0 lo = 0 ∧ HT.sIx xs.length xs.length hi = xs.length then none else some (.ot ((cutD xs lo hi).map .sh))
  | _ => none
def fSlice (fe : FO) (fl fh : Option FO) : FO := fun η => bindR (fe η) fun o η1 => bindR (fPart fl η1) fun l η2 => bindR (fPart fh η2) fun h η3 => appR (p1 (gSl l h)) [o] η3
theorem okP_po {eo : Option Expr} {f : Option FO} (h : OkP M X W eo f) : ∃ t, PO X eo t ∧ ∀ π τ η σ as H Hs r Q, Rep M.G (π ++ η) (τ ++ σ) as H Hs → τ.length = π.length → fPart f η = some r →
    (match r with
      | .ok o η' => ∀ as' H' Hs', Rep M.G (π ++ η') (τ ++ σ) as' H' Hs' → Ext as H Hs as' H' Hs' → Q o H'
      | .exc c p η' => PostX M.G W σ as H Hs c p η') → t σ H Q := by
  cases eo with
  | none =>
    cases f with
    | none =>
      refine ⟨_, po_none, fun π τ η σ as H Hs r Q hR hl hf hp => ?_⟩
      obtain rfl : r = .ok none η := (Option.some.inj hf).symm
      exact hp as H Hs hR Ext.refl
    | some f => exact h.elim
  | some e =>
    cases f with
    | none => exact h.elim
    | some f =>
      obtain ⟨t, ht, hh⟩ := OkO.framed h
      refine ⟨_, po_some ht, fun π τ η σ as H Hs r Q hR hl hf hp => ?_⟩
      rcases bindR_inv hf with ⟨o, η1, e1, e2⟩ | ⟨c, p, η1, e1, rfl⟩
      · refine hh π τ η σ as H Hs _ _ hR hl e1 fun v as' H' Hs' r1 l1 x1 => ?_
        cases ep : prepAll [o] η1 with
        | none =>
          rw [ep] at e2
          cases e2
        | some q =>
          obtain ⟨ds, η2⟩ := q
          rw [ep] at e2
          obtain ⟨d, rfl⟩ : ∃ d, ds = [d] := by
            rcases ds with _ | ⟨d1, _ | ⟨_, _⟩⟩ <;> first | exact ⟨_, rfl⟩ | (simp at e2; done)
          cases d <;> first | (simp at e2; done) | skip
          rename_i i
          obtain rfl : r = .ok (some i) η2 := (Option.some.inj e2).symm
          obtain ⟨a1, a2, rfl, p1, q1⟩ := r1.sub hl
          obtain ⟨as2, Hs2, r2, x2, t2⟩ := prep_ok (os := [o]) (vs := [v]) q1 ⟨v, [], rfl, l1, rfl⟩ ep
          obtain ⟨w, ws, z, t3, _⟩ := t2.uncons
          obtain ⟨rfl, rfl⟩ := List.cons.inj z
          obtain ⟨r3, x3⟩ := Rep.frame p1 r1.nd (fun a ha => r1.off a (by simp [ha])) r2 x2
          exact ⟨i, t3, hp _ _ _ r3 (x1.trans x3)⟩
      · exact hh π τ η σ as H Hs _ _ hR hl e1 hp
theorem cut_rep {G : Gc} {Hs : Hp} {ds : List D} {vs : List V} {lo hi : Option Int} (h : RepDs G Hs ds vs) : RepDs G Hs (cutD ds lo hi) (cutV vs lo hi) := by
  unfold cutD cutV
  rw [h.length]
  exact (h.drop _).take _
theorem ok_slice (ok : Cok M S k W X) {lo hi : Option Expr} {fl fh : Option FO} {p2 : Pos} (ha : OkO M X W a fa) (hl : OkP M X W lo fl) (hh : OkP M X W hi fh) : OkO M X W (.Subscript a (.Slice lo hi none p2) pos) (fSlice fa fl fh) := by
  obtain ⟨ta, hta, hha⟩ := ha
  obtain ⟨tl, htl, hhl⟩ := okP_po hl
  obtain ⟨th, hth, hhh⟩ := okP_po hh
  refine ⟨_, pe_slice (sl_list.or sl_tup) hta htl hth, fun η σ as H Hs res Q hR hf hp => ?_⟩
  rcases bindR_inv hf with ⟨o, η1, e1, e2⟩ | ⟨c, p, η1, e1, rfl⟩
  · refine hha η σ as H Hs _ _ hR e1 fun v as' H' Hs' r1 l1 x1 => ?_
    rcases bindR_inv e2 with ⟨l, η2, e3, e4⟩ | ⟨c, p, η2, e3, rfl⟩
    · refine hhl [o.p] [some v] η1 σ as' H' Hs' _ _ r1 rfl e3 fun as2 H2 Hs2 r2 x2 => ?_
      rcases bindR_inv e4 with ⟨h, η3, e5, e6⟩ | ⟨c, p, η3, e5, rfl⟩
      · refine hhh [o.p] [some v] η2 σ as2 H2 Hs2 _ _ r2 rfl e5 fun as3 H3 Hs3 r3 x3 => ?_
        refine app_ok (r := fun vs H Q => ∀ x, vs = [x] → (rSlL X.K x l h H Q ∨ rSlT X.K x l h H Q)) (prim1 (r := fun x H Q => rSlL X.K x l h H Q ∨ rSlT X.K x l h H Q) fun d x hx v H Hs Q s t q => ?_) (os := [o]) (vs := [v]) r3 ⟨v, [], rfl, l1, rfl⟩ (x1.trans (x2.trans x3)) e6 hp v rfl
        unfold gSl at hx
        split at hx
        · obtain rfl := Option.some.inj hx
          obtain ⟨a, vs, rfl, q1, r1⟩ := t
          refine .inl ⟨a, vs, rfl, by rw [ok.K]; exact q1, fun p np => q.lst (cut_rep r1) p np⟩
        · split at hx
          · cases hx
          · rename_i hw
            obtain rfl := Option.some.inj hx
            obtain ⟨a, vs, rfl, q1, r1⟩ := t
            refine .inr ⟨a, vs, rfl, SqT.of q1, by rw [← r1.length]; exact hw, fun p np => q.tup (cut_rep r1) p np⟩
        · cases hx
      · refine hhh [o.p] [some v] η2 σ as2 H2 Hs2 _ _ r2 rfl e5 fun v2 dx as3 H3 Hs3 r3 hX x3 => ?_
        exact hp v2 dx as3 H3 Hs3 r3 hX (x1.trans (x2.trans x3))
    · refine hhl [o.p] [some v] η1 σ as' H' Hs' _ _ r1 rfl e3 fun v2 dx as2 H2 Hs2 r2 hX x2 => ?_
      exact hp v2 dx as2 H2 Hs2 r2 hX (x1.trans x2)
  · exact hha η σ as H Hs _ _ hR e1 hp
end
end Wp
end
section
set_option Elab.async false
set_option linter.all false
set_option maxRecDepth 100000
namespace Wp
open PySem PySem.Spec PyProof.Rows L2

section
variable {M : Md} {S : Sc} {k : Nat} {W : WX} {X : Cx} {a b c e : Expr} {es : List Expr} {fa fb fc : FO} {g : FL} {pos p : Pos} {x : Str} {id : String} {r : List V → Hp → VK → Prop} {q : List D → Option Val}
/-- a built-in function that the boot knows under the name x -/
structure Bi (M : Md) (S : Sc) (x : Str) (v : Value) : Prop where
  gl : S.sc.names.lookup x = some .globalImplicit
  mg : M.mg x = none
  bo : bootBuiltins x = some v
  nn : x ≠ "__name__"
  nd : (x == ("__debug__" : Str)) = false
theorem ok_bi (ok : Cok M S k W X) (B : Bi M S x (.builtin id)) (hc : CallR X (.builtin id) r) (pr : PrimOk M.G r q) (ha : OkL M X W (e :: es) g) (hs : (e :: es).all noStar = true) : OkO M X W (.Call (.Name x p) (e :: es) [] pos) (fn g q) := by
  rw [List.all_cons, Bool.and_eq_true] at hs
  refine okN ha pr fun t ht => ?_
  exact pe_callB hc (gl_ok ok B.gl) (by have := ok.md; rw [← B.mg, ← this]; rfl) B.bo ht B.nn B.nd (star_cons hs.1) (star_plain hs.2)
theorem ok_ty (ok : Cok M S k W X) (B : Bi M S x (.type id)) (hc : CallR X (.type id) r) (pr : PrimOk M.G r q) (ha : OkL M X W (e :: es) g) (hs : (e :: es).all noStar = true) : OkO M X W (.Call (.Name x p) (e :: es) [] pos) (fn g q) := by
  rw [List.all_cons, Bool.and_eq_true] at hs
  refine okN ha pr fun t ht => ?_
  exact pe_callTy hc (gl_ok ok B.gl) (by have := ok.md; rw [← B.mg, ← this]; rfl) B.bo ht B.nn B.nd (star_cons hs.1) (star_plain hs.2)

def gLen : D → Option Val
  | .lst xs => some (.sh (.int xs.length))
  | .tup xs => some (.sh (.int xs.length))
  | .str x => if x.length ≤ sizeLine then some (.sh (.int x.length)) else none
  | .dict ks _ => some (.sh (.int ks.length))
  | _ => none
def rLen2 (K : PySem.W.Frag) : List V → Hp → VK → Prop := fun xs H Q => (∃ x n, xs = [x] ∧ LenV K x H n ∧ Q (.int n) H) ∨ ∃ a kvs, xs = [V.ref a] ∧ Rd H a (.dK kvs) ∧ Q (.int kvs.length) H
theorem call_len2 : CallR X (.builtin "len") (rLen2 X.K) := by
  refine call_len.or fun pins s σ H xs us Q I r h => ?_
  obtain ⟨a, kvs, rfl, ha, q⟩ := h
  obtain ⟨u, rfl, ru⟩ := vals1 r
  cases ru
  exact d_len I ha fun t s' I' => ⟨.int kvs.length, H, I', ⟨t, rfl⟩, q⟩
theorem p_len {G : Gc} : P1 G (fun v => rLen2 G.K [v]) gLen := fun d x hx v H Hs Q s t q => by
  unfold gLen at hx
  split at hx
  · obtain rfl := Option.some.inj hx
    obtain ⟨a, vs, rfl, q1, r1⟩ := t
    exact .inl ⟨_, vs.length, rfl, .inl ⟨vs, q1, rfl⟩, by rw [← r1.length]; exact q.int⟩
  · obtain rfl := Option.some.inj hx
    obtain ⟨a, vs, rfl, q1, r1⟩ := t
    exact .inl ⟨_, vs.length, rfl, .inr ⟨vs, SqT.of q1, rfl⟩, by rw [← r1.length]; exact q.int⟩
  · split at hx
    · obtain rfl := Option.some.inj hx
      obtain rfl := t
      exact .inl ⟨_, _, rfl, ⟨by assumption, rfl⟩, q.int⟩
    · cases hx
  · obtain rfl := Option.some.inj hx
    obtain ⟨a, vs, rfl, q1, l, r1⟩ := t
    refine .inr ⟨a, _, rfl, q1, ?_⟩
    rw [List.length_zip, ← l, Nat.min_self]
    exact q.int
  · cases hx
theorem ok_len (ok : Cok M S k W X) (B : Bi M S x (.builtin "len")) (ha : OkL M X W [a] g) (hs : [a].all noStar = true) : OkO M X W (.Call (.Name x p) [a] [] pos) (fn g (p1 gLen)) := by
  refine ok_bi ok B (by rw [show M.G.K = X.K from ok.K.symm]; exact call_len2) (primN p_len) ha hs

def gSum : D → Option Val
  | .lst xs => (intsOf xs).map fun ns => .sh (.int ns.sum)
  | _ => none
theorem p_sum {G : Gc} : P1 G (fun v => rSum G.K [v]) gSum := fun d x hx v H Hs Q s t q => by
  unfold gSum at hx
  split at hx
  · simp only [Option.map_eq_some_iff] at hx
    obtain ⟨ns, e1, rfl⟩ := hx
    rw [intsOf_inv e1] at t
    obtain ⟨a, vs, rfl, q1, r1⟩ := t
    rw [r1.ints] at q1
    exact ⟨a, ns, rfl, q1, q.int⟩
  · cases hx
theorem ok_sum (ok : Cok M S k W X) (B : Bi M S x (.builtin "sum")) (ha : OkL M X W [a] g) (hs : [a].all noStar = true) : OkO M X W (.Call (.Name x p) [a] [] pos) (fn g (p1 gSum)) := by
  refine ok_bi ok B (by rw [show M.G.K = X.K from ok.K.symm]; exact cr_sum ok.calm) (primN p_sum) ha hs
def gMx2 : D → D → Option Val
  | .int i, .int j => some (.sh (.int (max i j)))
  | _, _ => none
def gMn2 : D → D → Option Val
  | .int i, .int j => some (.sh (.int (min i j)))
  | _, _ => none
def rMx2 : List V → Hp → VK → Prop := fun xs H Q => ∃ i j, xs = [.int i, .int j] ∧ Q (.int (if j > i then j else i)) H
def rMn2 : List V → Hp → VK → Prop := fun xs H Q => ∃ i j, xs = [.int i, .int j] ∧ Q (.int (if j < i then j else i)) H
theorem p_mx2 {G : Gc} : P2 G (fun v u => rMx2 [v, u]) gMx2 := fun d e x hx v u H Hs Q s t1 t2 q => by
  unfold gMx2 at hx
  split at hx
  · rename_i i j
    obtain rfl := Option.some.inj hx
    obtain rfl := t1
    obtain rfl := t2
    refine ⟨i, j, rfl, ?_⟩
    have : (if j > i then j else i) = max i j := by split <;> omega
    rw [this]
    exact q.int
  · cases hx
theorem p_mn2 {G : Gc} : P2 G (fun v u => rMn2 [v, u]) gMn2 := fun d e x hx v u H Hs Q s t1 t2 q => by
  unfold gMn2 at hx
  split at hx
  · rename_i i j
    obtain rfl := Option.some.inj hx
    obtain rfl := t1
    obtain rfl := t2
    refine ⟨i, j, rfl, ?_⟩
    have : (if j < i then j else i) = min i j := by split <;> omega
    rw [this]
    exact q.int
  · cases hx
theorem ok_max2 (ok : Cok M S k W X) (B : Bi M S x (.builtin "max")) (ha : OkL M X W [a, b] g) (hs : [a, b].all noStar = true) : OkO M X W (.Call (.Name x p) [a, b] [] pos) (fn g (p2 gMx2)) :=
  ok_bi ok B (call_max2 ok.calm) (primN2 p_mx2) ha hs
theorem ok_min2 (ok : Cok M S k W X) (B : Bi M S x (.builtin "min")) (ha : OkL M X W [a, b] g) (hs : [a, b].all noStar = true) : OkO M X W (.Call (.Name x p) [a, b] [] pos) (fn g (p2 gMn2)) :=
  ok_bi ok B (call_min2 ok.calm) (primN2 p_mn2) ha hs
def gInt : D → Option Val
  | .int i => some (.sh (.int i))
  | .bl b => some (.sh (.int (if b then 1 else 0)))
  | _ => none
def gAbs : D → Option Val
  | .int i => some (.sh (.int (if i < 0 then -i else i)))
  | _ => none
def rAbs1 : List V → Hp → VK → Prop := fun xs H Q => ∃ i, xs = [.int i] ∧ Q (.int (if i < 0 then -i else i)) H
theorem p_abs {G : Gc} : P1 G (fun v => rAbs1 [v]) gAbs := fun d x hx v H Hs Q s t q => by
  unfold gAbs at hx
  split at hx
  · obtain rfl := Option.some.inj hx
    obtain rfl := t
    exact ⟨_, rfl, q.int⟩
  · cases hx
theorem ok_abs (ok : Cok M S k W X) (B : Bi M S x (.builtin "abs")) (ha : OkL M X W [a] g) (hs : [a].all noStar = true) : OkO M X W (.Call (.Name x p) [a] [] pos) (fn g (p1 gAbs)) :=
  ok_bi ok B call_abs (primN p_abs) ha hs
def gBits : D → Option Val
  | .int i => some (.sh (.int (Builtin.Int.intBits i : Nat)))
  | _ => none
theorem ok_bits {apos : Pos} (ha : OkO M X W a fa) (hb : baseOk a = true) (hl : (apos.endLine == pos.line) = true) : OkO M X W (.Call (.Attribute a "bit_length" apos) [] [] pos) (f1 fa (p1 gBits)) := by
  refine ok1 (r := fun x H Q => ∃ i, x = .int i ∧ Q (.int (Builtin.Int.intBits i : Nat)) H) ha (prim1 fun d x hx v H Hs Q s t q => ?_) fun _ h1 => pe_bits h1 (base_ok hb) hl
  unfold gBits at hx
  split at hx
  · obtain rfl := Option.some.inj hx
    exact ⟨_, t, q.int⟩
  · cases hx

def insI (n : Int) : List Int → List Int
  | [] => [n]
  | m :: ms => if n ≤ m then n :: m :: ms else m :: insI n ms
def sortI : List Int → List Int
  | [] => []
  | n :: ns => insI n (sortI ns)
def gList : D → Option Val
  | .lst xs => some (.ol (xs.map .sh))
  | .tup xs => some (.ol (xs.map .sh))
  | _ => none
def rListOf (K : PySem.W.Frag) : List V → Hp → VK → Prop := fun xs H Q => ∃ p ys, xs = [.ref p] ∧ (SqL K H p ys ∨ SqT K H p ys) ∧ ∀ l, H l = none → Q (.ref l) (upd H l (.lst ys))
theorem p_list {G : Gc} : P1 G (fun v => rListOf G.K [v]) gList := fun d x hx v H Hs Q s t q => by
  unfold gList at hx
  split at hx
  · obtain rfl := Option.some.inj hx
    obtain ⟨a, vs, rfl, q1, r1⟩ := t
    exact ⟨a, vs, rfl, .inl q1, fun l nl => q.lst r1 l nl⟩
  · obtain rfl := Option.some.inj hx
    obtain ⟨a, vs, rfl, q1, r1⟩ := t
    exact ⟨a, vs, rfl, .inr (SqT.of q1), fun l nl => q.lst r1 l nl⟩
  · cases hx
theorem ok_listOf (ok : Cok M S k W X) (B : Bi M S x (.type "list")) (ha : OkL M X W [a] g) (hs : [a].all noStar = true) : OkO M X W (.Call (.Name x p) [a] [] pos) (fn g (p1 gList)) :=
  ok_ty ok B (by rw [show M.G.K = X.K from ok.K.symm]; exact call_list_of) (primN p_list) ha hs
end
end Wp
end
section
set_option Elab.async false
set_option linter.all false
set_option maxRecDepth 100000
namespace Wp
open PySem PySem.Spec PyProof.Rows L2

section
variable {M : Md} {S : Sc} {k : Nat} {W : WX} {X : Cx} {a b c e : Expr} {es : List Expr} {fa fb fc : FO} {g : FL} {pos p : Pos} {x : Str}
def showOk (p : PyData) : Bool := p.showable && decide (p.depth ≤ 60) && decide (p.shown.length ≤ sizeLine)
def gRepr (d : D) : Option Val := (toPy d).bind fun p => if showOk p then some (.sh (.str p.shown)) else none
mutual
theorem noDict_of : ∀ {d : D} {p : PyData}, toPy d = some p → p.hasDict = false
  | .non, p, h => by simp only [toPy, Option.some.injEq] at h; subst h; simp [PyData.hasDict]
  | .bl _, p, h => by simp only [toPy, Option.some.injEq] at h; subst h; simp [PyData.hasDict]
  | .int _, p, h => by simp only [toPy, Option.some.injEq] at h; subst h; simp [PyData.hasDict]
  | .str _, p, h => by simp only [toPy, Option.some.injEq] at h; subst h; simp [PyData.hasDict]
  | .lst xs, p, h => by
    simp only [toPy, Option.map_eq_some_iff] at h
    obtain ⟨ps, h1, rfl⟩ := h
    simp only [PyData.hasDict]
    exact noDicts_of h1
  | .tup xs, p, h => by
    simp only [toPy, Option.map_eq_some_iff] at h
    obtain ⟨ps, h1, rfl⟩ := h
    simp only [PyData.hasDict]
    exact noDicts_of h1
  | .dict _ _, p, h => by simp [toPy] at h
  | .dt _ _, p, h => by simp [toPy] at h
  | .fn _, p, h => by simp [toPy] at h
  | .rng _ _, p, h => by simp [toPy] at h
  | .obj _ _ _, p, h => by simp [toPy] at h
theorem noDicts_of : ∀ {ds : List D} {ps : List PyData}, toPys ds = some ps → PyData.hasDictAll ps = false
  | [], ps, h => by simp only [toPys, Option.some.injEq] at h; subst h; simp [PyData.hasDictAll]
  | d :: ds, ps, h => by
    simp only [toPys, Option.bind_eq_some_iff, Option.some.injEq] at h
    obtain ⟨p1, e1, p2, e2, rfl⟩ := h
    simp only [PyData.hasDictAll, noDict_of e1, noDicts_of e2, Bool.or_self]
end
def rReprD (K : PySem.W.Frag) : List V → Hp → VK → Prop := fun xs H Q => ∃ v p, xs = [v] ∧ L2.Dp K H v p ∧ p.hasDict = false ∧ showOk p = true ∧ Q (.str p.shown) H
theorem call_reprD (gd : X.A.guards = some []) (hu : X.A.units + 65 < cLine) : CallR X (.builtin "repr") (rReprD X.K) := by
  intro pins s σ H xs us Q I r h
  obtain ⟨v, p, rfl, hd, nd, sh, q⟩ := h
  obtain ⟨u, rfl, ru⟩ := vals1 r
  unfold showOk at sh
  simp only [Bool.and_eq_true, decide_eq_true_eq] at sh
  obtain ⟨⟨s1, s2⟩, s3⟩ := sh
  have fin : ∀ (h' : Heap) (u tk : Nat), (∀ b o, s.heap.get? b = some o → h'.get? b = some o) → EP X pins σ Q (.str p.shown u) { s with heap := h', toks := tk } := fun h' u tk hk => ⟨.str p.shown, H, I.kept (t' := tk) hk, ⟨u, rfl⟩, q⟩
  obtain ⟨as, rd⟩ := L2.Dp.reads I p v u hd ru
  cases hd with
  | non =>
    cases ru
    exact PySem.P.repr_of_none (fin s.heap _ _ fun _ _ e => e)
  | bl b =>
    cases ru
    cases b with
    | false =>
      have e : PyData.shown (.bool false) = Str.ofString "False" := by simp [PyData.shown]
      rw [e] at fin
      exact PySem.P.repr_of_bool (fin s.heap _ _ fun _ _ e => e)
    | true =>
      have e : PyData.shown (.bool true) = Str.ofString "True" := by simp [PyData.shown]
      rw [e] at fin
      exact PySem.P.repr_of_bool (fin s.heap _ _ fun _ _ e => e)
  | int i =>
    obtain ⟨t, rfl⟩ := ru
    have z : i.natAbs.log2 < 1920 := by simpa [PyData.showable] using s1
    exact PySem.P.repr_of_int z (by have e : PyData.shown (.int i) = toString i := by simp [PyData.shown]
                                    rw [e] at fin
                                    exact fin s.heap _ _ fun _ _ e => e)
  | str x =>
    obtain ⟨t, rfl⟩ := ru
    have e : PyData.shown (.str x) = reprText x := by simp [PyData.shown]
    rw [e] at fin
    exact PySem.P.repr_of_str (fin s.heap _ _ fun _ _ e => e) (by rw [← e]; exact s3)
  | lst hs ha =>
    cases ru
    exact repr_of_reads' rd s1 (fun z => by rw [nd] at z; cases z) gd (by omega) (fun _ _ e => e) (fun h' u tk hk => fin h' u tk hk) s3
  | tup hs ha =>
    cases ru
    exact repr_of_reads' rd s1 (fun z => by rw [nd] at z; cases z) gd (by omega) (fun _ _ e => e) (fun h' u tk hk => fin h' u tk hk) s3
theorem p_repr {G : Gc} : P1 G (fun v => rReprD G.K [v]) gRepr := fun d x hx v H Hs Q s t q => by
  unfold gRepr at hx
  simp only [Option.bind_eq_some_iff, Option.ite_none_right_eq_some, Option.some.injEq] at hx
  obtain ⟨p, e1, e2, rfl⟩ := hx
  exact ⟨v, p, rfl, t.dp s e1, noDict_of e1, e2, q.str⟩
theorem ok_repr (ok : Cok M S k W X) (B : Bi M S x (.builtin "repr")) (ha : OkL M X W [a] g) (hs : [a].all noStar = true) : OkO M X W (.Call (.Name x p) [a] [] pos) (fn g (p1 gRepr)) := by
  refine ok_bi ok B (by rw [show M.G.K = X.K from ok.K.symm]; exact call_reprD ok.gd ok.un) (primN p_repr) ha hs

def kindS : D → String
  | .non => "NoneType"
  | .bl _ => "bool"
  | .int _ => "int"
  | .str _ => "str"
  | .tup _ => "tuple"
  | .lst _ => "list"
  | .dict _ _ => "dict"
  | .dt _ _ => "dict"
  | .fn _ => "dict"
  | .rng _ _ => "dict"
  | .obj _ _ _ => "object"
/-- what isinstance tells: of built-in kinds, of own classes -/
def isT (bt : List (String × Bool)) (ct : List (Nat × Bool)) : D → Option Bool
  | .obj c _ _ => ct.lookup c
  | .dt _ _ => none
  | .fn _ => none
  | .rng _ _ => none
  | d => bt.lookup (kindS d)
structure IsOk (M : Md) (u : Value) (bt : List (String × Bool)) (ct : List (Nat × Bool)) : Prop where
  b : ∀ T r, bt.lookup T = some r → PySem.W.kitOne M.K (.type T) u = some r
  c : ∀ n r, ct.lookup n = some r → C8.InsC M.K (M.C n) ∧ PySem.W.kitOne M.K (.ref (M.C n)) u = some r
def gIsi (bt : List (String × Bool)) (ct : List (Nat × Bool)) : D → Option Val := fun d => (isT bt ct d).map fun r => .sh (.bl r)
theorem isT_ok {u : Value} {bt : List (String × Bool)} {ct : List (Nat × Bool)} (I : IsOk M u bt ct) {d : D} {r : Bool} {v : V} {H Hs : Hp} (h : isT bt ct d = some r) (t : RepT M.G H Hs d v) : ∃ ty, TyX M.K H v ty ∧ PySem.W.kitOne M.K ty u = some r := by
  cases d with
  | non => exact ⟨_, by rw [show v = .non from t]; exact .base .non, I.b _ _ h⟩
  | bl b => exact ⟨_, by rw [show v = .bl b from t]; exact .base (.bl b), I.b _ _ h⟩
  | int i => exact ⟨_, by rw [show v = .int i from t]; exact .base (.int i), I.b _ _ h⟩
  | str z => exact ⟨_, by rw [show v = .str z from t]; exact .base (.str z), I.b _ _ h⟩
  | tup xs =>
    obtain ⟨a, vs, rfl, q, _⟩ := t
    refine ⟨.type "tuple", ?_, I.b _ _ h⟩
    exact .base (.tup q)
  | lst xs =>
    obtain ⟨a, vs, rfl, q, _⟩ := t
    refine ⟨.type "list", ?_, I.b _ _ h⟩
    rcases q with (q | ⟨o, q⟩) | ⟨o, its, n, q1, q2, _⟩
    · exact .base (.lst q)
    · exact .base (.frz q)
    · exact .kList q1 q2
  | dt ks xs => cases h
  | fn _ => cases h
  | rng _ _ => cases h
  | dict ks xs =>
    obtain ⟨a, vs, rfl, q, _⟩ := t
    refine ⟨.type "dict", ?_, I.b _ _ h⟩
    rcases q with q | ⟨o, q⟩
    · exact .base (.dK q)
    · exact .fDict q
  | obj c fs xs =>
    obtain ⟨a, dx, vs, rfl, q, _⟩ := t
    obtain ⟨i, e⟩ := I.c _ _ h
    exact ⟨_, .base (.ins q i.cl i.ha i.hn i.htk i.hm), e⟩
theorem ok_isi {T : Expr} {cv : V} {u : Value} {bt : List (String × Bool)} {ct : List (Nat × Bool)} (ok : Cok M S k W X) (B : Bi M S x (.builtin "isinstance")) (hT : PE X T (tC cv)) (hc : ClsV cv u) (I : IsOk M u bt ct) (ha : OkO M X W a fa) (hs : noStar a = true) (hsT : noStar T = true) :
    OkO M X W (.Call (.Name x p) [a, T] [] pos) (f1 fa (p1 (gIsi bt ct))) := by
  refine ok1 (r := fun v H Q => rIsi M.K [v, cv] H Q) ha (prim1 fun d y hx v H Hs Q s t q => ?_) fun ta ht => ?_
  · unfold gIsi at hx
    simp only [Option.map_eq_some_iff] at hx
    obtain ⟨r, hr, rfl⟩ := hx
    obtain ⟨ty, h1, h2⟩ := isT_ok I hr t
    exact ⟨v, cv, ty, u, r, rfl, hc, h1, h2, q.bl⟩
  · have hp : PA X [a, T] (tCons ta (tCons (tC cv) tNil)) := pa_cons ht (pa_cons hT pa_nil (star_cons hsT)) (star_cons hs)
    have := pe_callB (pos := pos) (p := p) (call_isi (X := X)) (gl_ok ok B.gl) (by have := ok.md; rw [← B.mg, ← this]; rfl) B.bo hp B.nn B.nd (star_cons hs) (star_plain (by simp [hsT]))
    rw [← ok.K]
    exact this

/-- a class's own ==, by a def that raises nothing -/
def EqOk (M : Md) (k : Nat) (mt : Nat → Option Fi) : Prop := ∀ c i, mt c = some i → ∃ f, PySem.W.findIn M.K (.ref (M.C c)) "__eq__" = some (some (.ref f)) ∧ PySem.W.isFn M.K (.ref f) = true ∧ Cb M k f i.F i.n i.df ∧ i.df.length + 2 - i.n ≤ i.df.length
def fEqO (mt : Nat → Option Fi) (fa fb : FO) : FO := fun η => bindR (fa η) fun o η1 => bindR (fb η1) fun o2 η2 => match o.cls η2, o2.cls η2 with
  | some (c, _), some (c2, _) => if c = c2 then (match mt c with
    | some i => (match callR i.n i.ms i.F (i.dv 2) [o, o2] η2 with
      | some (.ok (.pend (.sh (.bl b))) η3) => okR (.pend (.sh (.bl b))) η3
      | _ => none)
    | none => none) else none
  | _, _ => none
def rEqO (X : Cx) (k : Nat) : R2 := fun x y H Q => ∃ a b C f fd ps sp dvs ds dx dy fs gs, x = .ref a ∧ y = .ref b ∧ H a = some (.ins C dx fs) ∧ H b = some (.ins C dy gs) ∧ PySem.W.findIn X.K (.ref C) "__eq__" = some (some (.ref f)) ∧ PySem.W.isFn X.K (.ref f) = true ∧
  FnG X.prog X.w X.K X.mg X.base k f fd ps sp ∧ L2.Binds X.K fd ps ds ∧ Vals dvs ds ∧ sp (.ref a :: .ref b :: dvs) H (fun v H' => (∃ r, v = .bl r) ∧ Q v H') (fun _ _ _ => False)
theorem op_eqO (gd : X.A.guards = some []) (hr : Room k X.A) : OpR X (compareOp .Eq) (rEqO X k) := by
  intro pins s σ H x y v u Q I rx ry h
  obtain ⟨a, b, C, f, fd, ps, sp, dvs, ds, dx, dy, fs, gs, rfl, rfl, ha, hb, hs, hf, F, hbi, hd, hq⟩ := h
  cases rx
  cases ry
  obtain ⟨mA, J, _⟩ := ins_get I.hok ha
  obtain ⟨mB, J', _⟩ := ins_get I.hok hb
  obtain ⟨od, J, _⟩ := J.look
  obtain ⟨od', J', _⟩ := J'.look
  obtain ⟨m, hF⟩ := I.fr
  show wpAny (model X.prog X.w) X.A (richCompare .Eq (.ref a) (.ref b)) (EP X pins σ Q) X.xe s
  refine PySem.W.cmp_K (op := .Eq) (tb := .ref C) hr.units0 hF I.ok.mod.kin J J'.type (by simp [PySem.W.notFirst]) hs hf ?_
  have rr : Vals (V.ref a :: V.ref b :: dvs) (Value.ref a :: Value.ref b :: ds) := .cons rfl (.cons rfl hd)
  have hl : ([Value.ref a, Value.ref b] ++ ds).length = ps.length := by
    have := F.len _ _ _ _ hq
    rw [rr.length] at this
    exact this
  have run := F.run X.A X.stack s H ⟨[.ref a, .ref b], []⟩ _ _ _ _ gd hr I.env0 (hbi s [.ref a, .ref b] I.kIn hl) rr hq
  refine wpAny_call (codeAny_mono run fun res s' hres => ?_)
  rcases res with er | fl
  · obtain ⟨_, _, _, _, _, _, _, _, _, _, _, _, z⟩ := hres
    exact z.elim
  · cases fl with
    | ret w =>
      obtain ⟨z, H', I', rz, ⟨r, ez⟩, q⟩ := I.after hres
      subst ez
      cases rz
      exact ⟨.bl r, H', I', rfl, q⟩
    | _ => exact hres.elim
theorem eqO_P {P : TE → Prop} {mt : Nat → Option Fi} (ok : Cok M S k W X) (hmt : EqOk M k mt) (ha : OkO M X W a fa) (hb : OkO M X W b fb)
    (he : ∀ ta tb, PE X a ta → PE X b tb → P (tOp (rEqO X k) ta tb)) : ∃ t, P t ∧ ∀ η σ as H Hs res Q, Rep M.G η σ as H Hs → fEqO mt fa fb η = some res → PostO M.G W σ as H Hs Q res → t σ H Q := by
  obtain ⟨P', w, K, mg, base, C⟩ := M
  have emd := ok.md
  simp only [mdOf, Md.mk.injEq, and_true] at emd
  obtain ⟨rfl, rfl, rfl, rfl, rfl⟩ := emd
  obtain ⟨ta, hta, hha⟩ := ha
  obtain ⟨tb, htb, hhb⟩ := hb.framed
  refine ⟨_, he ta tb hta htb, fun η σ as H Hs res Q hR hf hp => ?_⟩
  rcases bindR_inv hf with ⟨o, η1, e1, e2⟩ | ⟨c, p, η1, e1, rfl⟩
  · refine hha η σ as H Hs _ _ hR e1 fun v as' H' Hs' r1 l1 x1 => ?_
    rcases bindR_inv e2 with ⟨o2, η2, e3, e4⟩ | ⟨c, p, η2, e3, rfl⟩
    · refine hhb [o.p] [some v] η1 σ as' H' Hs' _ _ r1 rfl e3 fun v2 as2 H2 Hs2 r2 l2 x2 => ?_
      have r2 : Rep _ (o.p :: o2.p :: η2) (some v :: some v2 :: σ) as2 H2 Hs2 := r2
      cases c1 : o.cls η2 with
      | none =>
        simp only [c1] at e4
        cases e4
      | some q1 =>
        cases c2 : o2.cls η2 with
        | none =>
          simp only [c1, c2] at e4
          cases e4
        | some q2 =>
          obtain ⟨c, fs⟩ := q1
          obtain ⟨c', gs⟩ := q2
          simp only [c1, c2] at e4
          by_cases hc : c = c'
          · rw [if_pos hc] at e4
            subst hc
            cases em : mt c with
            | none =>
              rw [em] at e4
              cases e4
            | some i =>
              rw [em] at e4
              simp only at e4
              obtain ⟨f, h1, h2, cb, hle⟩ := hmt c i em
              obtain ⟨fd, ps, F, hd⟩ := cb.ex
              obtain ⟨dvs, ds, d1, d2, d3⟩ := hd _ hle
              -- the two objects
              obtain ⟨a3, r3, m3⟩ : ∃ a3, Rep _ (o.p :: η2) (some v :: σ) a3 H2 Hs2 ∧ ∀ a ∈ a3, a ∈ as2 := by
                obtain ⟨a3, m3, r3⟩ := Rep.dropMid (A := [o.p]) (τ := [some v]) r2 rfl
                exact ⟨a3, r3, m3⟩
              obtain ⟨a4, r4, m4⟩ := Rep.pop r2
              obtain ⟨a, dx, vs, rfl, ea, _⟩ := Opv.cls_ok r3 l1 c1
              obtain ⟨b, dy, us, rfl, eb, _⟩ := Opv.cls_ok r4 l2 c2
              refine ⟨a, b, _, f, fd, ps, _, dvs, ds, dx, dy, _, _, rfl, rfl, ea, eb, h1, h2, F, d3, d2, ?_⟩
              cases e5 : callR i.n i.ms i.F (i.dv 2) [o, o2] η2 with
              | none =>
                rw [e5] at e4
                cases e4
              | some rr =>
                rw [e5] at e4
                cases rr with
                | exc c' p' η' => cases e4
                | ok o3 η3 =>
                  obtain ⟨bb, rfl⟩ : ∃ bb, o3 = .pend (.sh (.bl bb)) := by
                    rcases o3 with y | j
                    · rcases y with dd | _ | _ | _ | _ <;> first | (simp at e4; done) | skip
                      cases dd <;> first | (simp at e4; done) | exact ⟨_, rfl⟩
                    · simp at e4
                  obtain rfl : res = .ok (.pend (.sh (.bl bb))) η3 := (Option.some.inj e4).symm
                  refine callR_ok (W := fun _ _ _ _ => False) d1 (os := [o, o2]) (vs := [.ref a, .ref b]) r2 ⟨_, _, rfl, l1, _, _, rfl, l2, rfl⟩ (x1.trans x2) e5 fun v' as' H' Hs' rr lk xx => ⟨⟨bb, ?_⟩, hp v' as' H' Hs' rr lk xx⟩
                  obtain ⟨w', σ', y1, y2, z1, rfl, rv, _⟩ := rr.env
                  obtain ⟨z2, rfl⟩ := List.cons.inj z1
                  obtain rfl := Option.some.inj z2
                  obtain ⟨rfl, rd⟩ := RepV.sh_iff.mp rv
                  simpa only [RepD] using rd
          · rw [if_neg hc] at e4
            cases e4
    · refine hhb [o.p] [some v] η1 σ as' H' Hs' _ _ r1 rfl e3 fun v2 dx as2 H2 Hs2 r2 hX x2 => ?_
      exact hp v2 dx as2 H2 Hs2 r2 hX (x1.trans x2)
  · exact hha η σ as H Hs _ _ hR e1 hp
theorem ok_eqO {mt : Nat → Option Fi} (ok : Cok M S k W X) (hmt : EqOk M k mt) (ha : OkO M X W a fa) (hb : OkO M X W b fb) : OkO M X W (.Compare a [.Eq] [b] pos) (fEqO mt fa fb) :=
  eqO_P ok hmt ha hb fun _ _ h1 h2 => pe_cmpR (op_eqO ok.gd ok.room) h1 h2 (nomark _)
end
end Wp
end
section
set_option Elab.async false
set_option linter.all false
set_option maxRecDepth 100000
namespace Wp
open PySem PySem.Spec PyProof.Rows L2

theorem RepVs.sh_nil {G : Gc} {H Hs : Hp} : ∀ {ds : List D} {vs : List V} {as : List Addr}, RepVs G H Hs (ds.map .sh) vs as → as = []
  | [], vs, as, h => (RepVs.nil_iff.mp h).2
  | d :: ds, vs, as, h => by
    rw [List.map_cons] at h
    obtain ⟨v, ws, a1, a2, rfl, rfl, p, q⟩ := h.uncons
    rw [(RepV.sh_iff.mp p).1, RepVs.sh_nil q]
    rfl
theorem Rep.mutS {G : Gc} {η : Env} {σ : L2.St} {as : List Addr} {H Hs : Hp} {i : Nat} {ds : List D} (h : Rep G η σ as H Hs) (e : η[i]? = some (some (.ol (ds.map .sh)))) : ∃ a vs, σ[i]? = some (some (.ref a)) ∧ H a = some (.lst vs) ∧ RepDs G Hs ds vs ∧
    ∀ ds' vs', RepDs G Hs ds' vs' → ∃ as', Rep G (η.set i (some (.ol (ds'.map .sh)))) σ as' (upd H a (.lst vs')) Hs ∧ Ext as H Hs as' (upd H a (.lst vs')) Hs := by
  obtain ⟨v, a1, a2, a3, ev, rfl, rv, k⟩ := h.env.at e
  simp only [RepV] at rv
  obtain ⟨a, vs, bs, rfl, rfl, ha, rs⟩ := rv
  obtain rfl := rs.sh_nil
  refine ⟨a, vs, ev, ha, rs.shs_inv, fun ds' vs' rd => ?_⟩
  have na : ∀ b ∈ a1 ++ a3, b ≠ a := fun b hb z => by
    subst z
    have nd := h.nd
    obtain ⟨n1, n2, n3⟩ := List.nodup_append.mp nd
    rcases List.mem_append.mp hb with z | z
    · exact n3 b z b (by simp) rfl
    · have := (List.nodup_cons.mp (show (b :: ([] ++ a3)).Nodup from n2)).1
      exact this (by simpa using z)
  have hsa : Hs a = none := h.off a (by simp)
  have k2 := k (upd H a (.lst vs')) Hs (some (.ol (ds'.map .sh))) (some (.ref a)) [a] ⟨_, rfl, by simp only [RepV]; exact ⟨a, vs', [], rfl, rfl, upd_same, rd.shs _⟩⟩ (fun b hb o eo => by rw [upd_ne (na b hb)]; exact eo) Le.refl
  rw [set_same ev] at k2
  refine ⟨_, ⟨fun b o eo => ?_, k2, by simpa using h.nd, fun b hb => h.off b (by simpa using hb), h.tp.upd (fun _ z => nomatch z)⟩, ⟨fun b o eo nb => ?_, Sub.refl, fun b z => .inl z, fun b hb => .inl (by simpa using hb)⟩⟩
  · have hb : b ≠ a := fun z => by
      subst z
      rw [hsa] at eo
      cases eo
    rcases h.le b o eo with z | ⟨ob, z1, z2⟩
    · exact .inl (by rw [upd_ne hb]; exact z)
    · exact .inr ⟨ob, z1, by rw [upd_ne hb]; exact z2⟩
  · rw [upd_ne (fun z => nb (by simp [z]))]
    exact eo
/-- an item, made shared -/
def escS (o : Opv) (η : Env) : Option (D × Env) := match esc1 o η with
  | some (x, η1) => some (x.d, η1)
  | none => none
theorem escS_ok {G : Gc} {o : Opv} {v : V} {η : Env} {σ : L2.St} {as : List Addr} {H Hs : Hp} {d : D} {η' : Env} (h : Rep G (o.p :: η) (some v :: σ) as H Hs) (l : o.lnk σ v) (e : escS o η = some (d, η')) :
    ∃ as' Hs', Rep G η' σ as' H Hs' ∧ Ext as H Hs as' H Hs' ∧ RepD G Hs' d v := by
  unfold escS at e
  cases e1 : esc1 o η with
  | none =>
    rw [e1] at e
    cases e
  | some q =>
    obtain ⟨x, η1⟩ := q
    rw [e1] at e
    simp only [Option.some.injEq, Prod.mk.injEq] at e
    obtain ⟨rfl, rfl⟩ := e
    obtain ⟨as1, Hs1, r1, x1⟩ := esc1_ok (π := []) (τ := []) h rfl l e1
    obtain ⟨as2, Hs2, r2, x2, rd⟩ := Rep.freeze0 (η := η1) (σ := σ) r1
    obtain ⟨as3, r3, m3⟩ := r2.pop
    exact ⟨as3, Hs2, r3, (x1.trans x2).less m3, rd⟩

section
variable {M : Md} {S : Sc} {k : Nat} {W : WX} {X : Cx} {kp : List Nat} {a b c e : Expr} {es : List Expr} {fa fb fc : FO} {g : FL} {pos p : Pos} {x : Str}
theorem pv_of (ok : Cok M S k W X) {i : Nat} (hi : S.N[i]? = some x) (hv : Vis S.sc x) (hd : (x == ("__debug__" : Str)) = false) (hcd : (x == ("__classdict__" : Str)) = false) : PE X (.Name x p) (tVar i) :=
  pe_var (by rw [ok.N]; exact hi) (by rw [ok.sc]; exact hv) hd hcd
def visB (sc : Scope) (x : Str) : Bool := match sc.names.lookup x with
  | some .local => true
  | some .cell => true
  | some .free => true
  | _ => false
theorem visB_ok {sc : Scope} (h : visB sc x = true) : Vis sc x := by
  unfold visB at h
  unfold Vis
  cases e : sc.names.lookup x with
  | none =>
    rw [e] at h
    cases h
  | some kd =>
    rw [e] at h
    cases kd <;> first | (simp; done) | cases h
/-- a name that can be read at a place -/
structure Nm (S : Sc) (x : Str) (i : Nat) : Prop where
  i : S.N[i]? = some x
  v : visB S.sc x = true
  d : (x == ("__debug__" : Str)) = false
  cd : (x == ("__classdict__" : Str)) = false
theorem Nm.pe (ok : Cok M S k W X) {i : Nat} (n : Nm S x i) : PE X (.Name x p) (tVar i) := pv_of ok n.i (visB_ok n.v) n.d n.cd
theorem ok_name (ok : Cok M S k W X) {i : Nat} (n : Nm S x i) : OkO M X W (.Name x p) (fVar i) := ok_var (n.pe ok)

def fApp (i : Nat) (fe : FO) : FO := fun η => match η[i]? with
  | some (some (.ol _)) => bindR (fe η) fun o η1 => (match esc1 o η1 with
    | some (z, η2) => (match η2[i]? with
      | some (some (.ol xs)) => if xs.length < sizeLine then okR (.pend (.sh .non)) (η2.set i (some (.ol (xs ++ [z])))) else none
      | _ => none)
    | none => none)
  | _ => none
theorem Rep.appendAt {G : Gc} {z : Val} {zv : V} {xs : List Val} {η : Env} {σ : L2.St} {as : List Addr} {H Hs : Hp} {i : Nat} (h : Rep G (some z :: η) (some zv :: σ) as H Hs) (e : η[i]? = some (some (.ol xs))) :
    ∃ a vs, σ[i]? = some (some (.ref a)) ∧ H a = some (.lst vs) ∧ vs.length = xs.length ∧ ∃ as', Rep G (η.set i (some (.ol (xs ++ [z])))) σ as' (upd H a (.lst (vs ++ [zv]))) Hs ∧ Ext as H Hs as' (upd H a (.lst (vs ++ [zv]))) Hs := by
  have hi : i < η.length := (List.getElem?_eq_some_iff.mp e).1
  obtain ⟨v, a1, a2, a3, ev, _, rv, _⟩ := h.env.at (i := i + 1) (by simpa using e)
  simp only [RepV] at rv
  obtain ⟨a, vs0, bs, rfl, _, _, _⟩ := rv
  have ev : σ[i]? = some (some (.ref a)) := by simpa using ev
  have h0 : Rep G (none :: some z :: η) (some (.ref a) :: some zv :: σ) as H Hs := RepO.none_top h
  obtain ⟨b1, p1, r1⟩ := h0.move (i := i + 2) (j := 0) (x := .ol xs) (v := .ref a) (by simpa using e) rfl (by simpa using ev) rfl
  have r1 : Rep G ([] ++ (some (.ol xs) :: some z :: η.set i none)) ([] ++ (some (.ref a) :: some zv :: σ)) b1 H Hs := by simpa using r1
  obtain ⟨vs, hv, lv, as2, r2, x2⟩ := r1.append rfl
  obtain ⟨b3, p3, r3⟩ := Rep.move (i := 0) (j := i + 1) (x := .ol (xs ++ [z])) (v := .ref a) r2 rfl (by simp [hi]) rfl (by simpa using ev)
  have r3 : Rep G (none :: η.set i (some (.ol (xs ++ [z])))) (some (.ref a) :: σ) b3 (upd H a (.lst (vs ++ [zv]))) Hs := by simpa [List.set_set] using r3
  obtain ⟨b4, r4, m4⟩ := r3.pop
  exact ⟨a, vs, ev, hv, lv, b4, r4, ((x2.perm p1.symm).permR p3).less m4⟩
theorem ok_append (ok : Cok M S k W X) {i : Nat} {apos : Pos} (n : Nm S x i) (he : OkO M X W e fa) (hs : noStar e = true) (hl : (apos.endLine == pos.line) = true) : OkO M X W (.Call (.Attribute (.Name x p) "append" apos) [e] [] pos) (fApp i fa) := by
  obtain ⟨t, ht, hh⟩ := he
  refine ⟨_, pe_bm (n.pe ok) (pa := PySem.F.plainAttrs_list) (slot := PySem.F.slot_list_append) (hty := PySem.F.type_list_append) (hm := mt_append) (ha := pa_cons ht pa_nil (star_cons hs)) (hbase := base_ok rfl) (hfew := by rw [star_cons hs]; rfl) (hline := hl) (hs := star_cons hs) (hplain := rfl), fun η σ as H Hs res Q hR hf hp => ?_⟩
  unfold fApp at hf
  cases e0 : η[i]? with
  | none =>
    rw [e0] at hf
    cases hf
  | some y =>
    rcases y with _ | (d | xs0 | _ | _ | _) <;> first | (rw [e0] at hf; cases hf; done) | skip
    rw [e0] at hf
    simp only at hf
    obtain ⟨v, a1, a2, a3, ev, _, rv, _⟩ := hR.env.at e0
    simp only [RepV] at rv
    obtain ⟨a, vs0, bs, rfl, _, ha, _⟩ := rv
    refine ⟨_, ev, .inl ⟨rfl, _, SqL.of ha⟩, ?_⟩
    show t σ H _
    rcases bindR_inv hf with ⟨o, η1, e1, e2⟩ | ⟨c, p, η1, e1, rfl⟩
    · refine hh η σ as H Hs _ _ hR e1 fun zv as' H' Hs' r1 l1 x1 => ?_
      cases e3 : esc1 o η1 with
      | none =>
        rw [e3] at e2
        cases e2
      | some q =>
        obtain ⟨z, η2⟩ := q
        rw [e3] at e2
        simp only at e2
        obtain ⟨as2, Hs2, r2, x2⟩ := esc1_ok (π := []) (τ := []) r1 rfl l1 e3
        cases e4 : η2[i]? with
        | none =>
          rw [e4] at e2
          cases e2
        | some y =>
          rcases y with _ | (d | xs | _ | _ | _) <;> first | (rw [e4] at e2; cases e2; done) | skip
          rw [e4] at e2
          simp only at e2
          by_cases hz : xs.length < sizeLine
          · rw [if_pos hz] at e2
            obtain rfl : res = .ok (.pend (.sh .non)) _ := (Option.some.inj e2).symm
            obtain ⟨a', vs, ev', ha', lv, as3, r3, x3⟩ := Rep.appendAt r2 e4
            rw [ev] at ev'
            obtain rfl : a = a' := by simpa using ev'
            exact ⟨a, vs, zv, rfl, rfl, ha', by omega, hp .non _ _ _ (r3.push_sh (by simp only [RepD])) trivial (x1.trans (x2.trans x3))⟩
          · rw [if_neg hz] at e2
            cases e2
    · exact hh η σ as H Hs _ _ hR e1 hp
def shList : Val → Option (List D)
  | .ol xs => shAll xs
  | _ => none
def isOl (η : Env) (i : Nat) : Bool := match η[i]? with
  | some (some (.ol _)) => true
  | _ => false
theorem isOl_inv {η : Env} {i : Nat} (h : isOl η i = true) : ∃ xs, η[i]? = some (some (.ol xs)) := by
  unfold isOl at h
  split at h
  · exact ⟨_, by assumption⟩
  · cases h
theorem ol_ref {G : Gc} {η : Env} {σ : L2.St} {as : List Addr} {H Hs : Hp} {i : Nat} {xs : List Val} (h : Rep G η σ as H Hs) (e : η[i]? = some (some (.ol xs))) : ∃ a vs, σ[i]? = some (some (.ref a)) ∧ H a = some (.lst vs) := by
  obtain ⟨v, a1, a2, a3, ev, _, rv, _⟩ := h.env.at e
  simp only [RepV] at rv
  obtain ⟨a, vs0, bs, rfl, _, ha, _⟩ := rv
  exact ⟨a, vs0, ev, ha⟩
def fSetI (i : Nat) (fe fi : FO) : FS := fun η => bindR (fe η) fun o η1 => match escS o η1 with
  | some (d, η2) => if isOl η2 i then bindR (fi η2) fun q η3 => (match prepAll [q] η3 with
    | some ([.int j], η4) => (match η4[i]? with
      | some (some y) => (match shList y with
        | some ds => (match ixN ds.length j with
          | some n => okR .next (η4.set i (some (.ol ((ds.set n d).map .sh))))
          | none => none)
        | none => none)
      | _ => none)
    | _ => none) else none
  | none => none
theorem shList_inv {y : Val} {ds : List D} (h : shList y = some ds) : y = .ol (ds.map .sh) := by
  cases y <;> first | cases h | skip
  rw [shAll_inv (show shAll _ = some ds from h)]
theorem ok_setI (ok : Cok M S k W X) {i : Nat} {ix : Expr} {spos : Pos} (n : Nm S x i) (he : OkO M X W e fa) (hi : OkO M X W ix fb)
    (hsw : noComp e = true)
    (has : ∀ v, assign (.Subscript (.Name x p) ix spos) X.env v = (do
      let ov ← holding [v] (eval (.Name x p) X.env)
      let iv ← holding [v, ov] (eval ix X.env)
      standAt spos
      holding [v, ov, iv] (setItem ov iv v)
      release [v, ov, iv] [])) (hw : swappedStores [.Subscript (.Name x p) ix spos] e X.env = pure none) (h1 : (assignEach [.Subscript (.Name x p) ix spos] X.env).map (·.2) = [assign (.Subscript (.Name x p) ix spos) X.env]) :
    OkS M X W kp (.Assign [.Subscript (.Name x p) ix spos] e pos) (fSetI i fa fb) := by
  obtain ⟨t, ht, hh⟩ := he
  obtain ⟨ti, hti, hhi⟩ := hi
  refine ⟨_, ps_asg ht (pg_sub (n.pe ok) hti set_list has) (by unfold swapsWithSole; exact swaps_no hsw) hw h1, fun η σ as H Hs res D hR hf hp => ?_⟩
  unfold fSetI at hf
  rcases bindR_inv hf with ⟨o, η1, e1, e2⟩ | ⟨c, p, η1, e1, rfl⟩
  · refine hh η σ as H Hs _ _ hR e1 fun zv as' H' Hs' r1 l1 x1 => ?_
    cases e3 : escS o η1 with
    | none =>
      rw [e3] at e2
      cases e2
    | some q =>
      obtain ⟨d, η2⟩ := q
      rw [e3] at e2
      simp only at e2
      obtain ⟨as2, Hs2, r2, x2, rd⟩ := escS_ok r1 l1 e3
      by_cases hol : isOl η2 i = true
      rotate_left
      · rw [if_neg hol] at e2
        cases e2
      rw [if_pos hol] at e2
      obtain ⟨xs0, e0⟩ := isOl_inv hol
      obtain ⟨a, vs0, ev, _⟩ := ol_ref r2 e0
      refine ⟨_, ev, ?_⟩
      rcases bindR_inv e2 with ⟨q, η3, e4, e5⟩ | ⟨c, p, η3, e4, rfl⟩
      · refine hhi η2 σ as2 H' Hs2 _ _ r2 e4 fun iv as3 H3 Hs3 r3 l3 x3 => ?_
        cases e6 : prepAll [q] η3 with
        | none =>
          rw [e6] at e5
          cases e5
        | some q2 =>
          obtain ⟨dl, η4⟩ := q2
          rw [e6] at e5
          obtain ⟨d1, rfl⟩ : ∃ d1, dl = [d1] := by
            rcases dl with _ | ⟨d1, _ | ⟨_, _⟩⟩ <;> first | exact ⟨_, rfl⟩ | (simp at e5; done)
          cases d1 <;> first | (simp at e5; done) | skip
          rename_i j
          simp only at e5
          obtain ⟨as4, Hs4, r4, x4, t4⟩ := prep_ok (os := [q]) (vs := [iv]) r3 ⟨iv, [], rfl, l3, rfl⟩ e6
          obtain ⟨w, ws, z, t5, _⟩ := t4.uncons
          obtain ⟨rfl, rfl⟩ := List.cons.inj z
          cases e7 : η4[i]? with
          | none =>
            rw [e7] at e5
            cases e5
          | some y =>
            cases y with
            | none =>
              rw [e7] at e5
              cases e5
            | some y =>
              rw [e7] at e5
              simp only at e5
              cases e8 : shList y with
              | none =>
                rw [e8] at e5
                cases e5
              | some ds =>
                rw [e8] at e5
                simp only at e5
                cases e9 : ixN ds.length j with
                | none =>
                  rw [e9] at e5
                  cases e5
                | some m =>
                  rw [e9] at e5
                  obtain rfl : res = .ok .next _ := (Option.some.inj e5).symm
                  obtain rfl := shList_inv e8
                  obtain ⟨a', vs, ev', ha, rds, mk⟩ := Rep.mutS r4 e7
                  rw [ev] at ev'
                  obtain rfl : a = a' := by simpa using ev'
                  obtain ⟨as5, r5, x5⟩ := mk (ds.set m d) (vs.set m zv) (rds.set m (rd.le ((x3.grow.trans x4.grow).le)))
                  exact ⟨a, vs, j, m, rfl, t5, ha, by rw [← rds.length]; exact e9, hp σ as5 _ _ r5 (x1.trans (x2.trans (x3.trans (x4.trans x5)))) Kept.refl⟩
      · refine hhi η2 σ as2 H' Hs2 _ _ r2 e4 fun u dx as3 H3 Hs3 r3 hX x3 => ?_
        exact hp u dx σ as3 H3 Hs3 r3 hX (x1.trans (x2.trans x3)) Kept.refl
  · exact hh η σ as H Hs _ _ hR e1 (PostX.toS hp)
end
end Wp
end
section
set_option Elab.async false
set_option linter.all false
set_option maxRecDepth 100000
namespace Wp
open PySem PySem.Spec PyProof.Rows L2

def putFs (f : Str) : List Str → List Str
  | [] => [f]
  | g :: r => if g = f then g :: r else g :: putFs f r
def putAs {α : Type} (f : Str) (a : α) : List Str → List α → List α
  | [], _ => [a]
  | g :: r, x :: xs => if g = f then a :: xs else x :: putAs f a r xs
  | _ :: _, [] => []
theorem putF_zip (f : Str) (y : V) : ∀ {fs : List Str} {vs : List V}, fs.length = vs.length → putF f y (fs.zip vs) = (putFs f fs).zip (putAs f y fs vs)
  | [], [], _ => rfl
  | g :: r, v :: vs, h => by
    simp only [List.zip_cons_cons, putF, putFs, putAs]
    by_cases e : g = f
    · simp [e]
    · simp only [if_neg e, List.zip_cons_cons]
      rw [putF_zip f y (by simpa using h)]
theorem putAs_len {α : Type} (f : Str) (y : α) : ∀ {fs : List Str} {vs : List α}, fs.length = vs.length → (putFs f fs).length = (putAs f y fs vs).length
  | [], [], _ => rfl
  | g :: r, v :: vs, h => by
    simp only [putFs, putAs]
    by_cases e : g = f
    · simpa [e] using h
    · simp only [if_neg e, List.length_cons]
      rw [putAs_len f y (by simpa using h)]
theorem putAs_rep {G : Gc} {Hs : Hp} {f : Str} {d : D} {v : V} : ∀ {fs : List Str} {ds : List D} {vs : List V}, fs.length = vs.length → RepDs G Hs ds vs → RepD G Hs d v → RepDs G Hs (putAs f d fs ds) (putAs f v fs vs)
  | [], ds, vs, _, h, r => RepDs.cons r (RepDs.nil_iff.mpr rfl)
  | g :: fs, [], vs, l, h, r => by
    rw [RepDs.nil_iff] at h
    subst h
    simp at l
  | g :: fs, d' :: ds, vs, l, h, r => by
    obtain ⟨w, ws, rfl, p, q⟩ := h.uncons
    simp only [putAs]
    by_cases e : g = f
    · simp only [if_pos e]
      exact RepDs.cons r q
    · simp only [if_neg e]
      exact RepDs.cons p (putAs_rep (by simpa using l) q r)
theorem Rep.mutO {G : Gc} {η : Env} {σ : L2.St} {as : List Addr} {H Hs : Hp} {i c : Nat} {fs : List Str} {ds : List D} (h : Rep G η σ as H Hs) (e : η[i]? = some (some (.oi c fs (ds.map .sh)))) : ∃ a dx vs, σ[i]? = some (some (.ref a)) ∧ H a = some (.ins (G.C c) dx (fs.zip vs)) ∧ fs.length = vs.length ∧ RepDs G Hs ds vs ∧
    ∀ fs' ds' vs', fs'.length = vs'.length → RepDs G Hs ds' vs' → ∃ as', Rep G (η.set i (some (.oi c fs' (ds'.map .sh)))) σ as' (upd H a (.ins (G.C c) dx (fs'.zip vs'))) Hs ∧ Ext as H Hs as' (upd H a (.ins (G.C c) dx (fs'.zip vs'))) Hs := by
  obtain ⟨v, a1, a2, a3, ev, rfl, rv, k⟩ := h.env.at e
  simp only [RepV] at rv
  obtain ⟨a, dx, vs, bs, rfl, rfl, ha, hd, hl, rs⟩ := rv
  obtain rfl := rs.sh_nil
  have hda : dx ≠ a := fun z => by
    subst z
    rw [ha] at hd
    cases hd
  refine ⟨a, dx, vs, ev, ha, hl, rs.shs_inv, fun fs' ds' vs' l' rd => ?_⟩
  have na : ∀ b ∈ a1 ++ a3, b ≠ a := fun b hb z => by
    subst z
    obtain ⟨n1, n2, n3⟩ := List.nodup_append.mp h.nd
    rcases List.mem_append.mp hb with z | z
    · exact n3 b z b (by simp) rfl
    · have := (List.nodup_cons.mp (show (b :: ([dx] ++ a3)).Nodup from n2)).1
      exact this (by simp [z])
  have hsa : Hs a = none := h.off a (by simp)
  have k2 := k (upd H a (.ins (G.C c) dx (fs'.zip vs'))) Hs (some (.oi c fs' (ds'.map .sh))) (some (.ref a)) [a, dx] ⟨_, rfl, by simp only [RepV]; exact ⟨a, dx, vs', [], rfl, rfl, upd_same, by rw [upd_ne hda]; exact hd, l', rd.shs _⟩⟩ (fun b hb o eo => by rw [upd_ne (na b hb)]; exact eo) Le.refl
  rw [set_same ev] at k2
  refine ⟨_, ⟨fun b o eo => ?_, k2, by simpa using h.nd, fun b hb => h.off b (by simpa using hb), h.tp.upd (fun _ z => nomatch z)⟩, ⟨fun b o eo nb => ?_, Sub.refl, fun b z => .inl z, fun b hb => .inl (by simpa using hb)⟩⟩
  · have hb : b ≠ a := fun z => by
      subst z
      rw [hsa] at eo
      cases eo
    rcases h.le b o eo with z | ⟨ob, z1, z2⟩
    · exact .inl (by rw [upd_ne hb]; exact z)
    · exact .inr ⟨ob, z1, by rw [upd_ne hb]; exact z2⟩
  · rw [upd_ne (fun z => nb (by simp [z]))]
    exact eo
def shObj : Val → Option (Nat × List Str × List D)
  | .oi c fs xs => (shAll xs).map fun ds => (c, fs, ds)
  | _ => none
theorem shObj_inv {y : Val} {c : Nat} {fs : List Str} {ds : List D} (h : shObj y = some (c, fs, ds)) : y = .oi c fs (ds.map .sh) := by
  cases y <;> first | cases h | skip
  rename_i c' fs' xs
  simp only [shObj, Option.map_eq_some_iff, Prod.mk.injEq] at h
  obtain ⟨ds', h1, rfl, rfl, rfl⟩ := h
  rw [shAll_inv h1]
def fSetF (fc : Nat → Bool) (i : Nat) (f : Str) (fe : FO) : FS := fun η => bindR (fe η) fun o η1 => match escS o η1 with
  | some (d, η2) => (match η2[i]? with
    | some (some y) => (match shObj y with
      | some (c, fs, ds) => if fc c = true ∧ fs.length < 1000 then okR .next (η2.set i (some (.oi c (putFs f fs) ((putAs f d fs ds).map .sh)))) else none
      | none => none)
    | _ => none)
  | none => none
section
variable {M : Md} {S : Sc} {k : Nat} {W : WX} {X : Cx} {kp : List Nat} {a b c e : Expr} {es : List Expr} {fa fb fc : FO} {g : FL} {pos p : Pos} {x : Str}
theorem ok_setF {cf : Nat → Bool} {f : Str} {i : Nat} {spos : Pos} (ok : Cok M S k W X) (n : Nm S x i) (hfc : FcOk M f cf) (he : OkO M X W e fa) (hs : noComp e = true) : OkS M X W kp (.Assign [.Attribute (.Name x p) f spos] e pos) (fSetF cf i f fa) := by
  obtain ⟨P', w, K, mg, base, C⟩ := M
  have emd := ok.md
  simp only [mdOf, Md.mk.injEq, and_true] at emd
  obtain ⟨rfl, rfl, rfl, rfl, rfl⟩ := emd
  obtain ⟨t, ht, hh⟩ := he
  refine ⟨_, ps_fld (n.pe ok) ht (swaps_no hs), fun η σ as H Hs res D hR hf hp => ?_⟩
  rcases bindR_inv hf with ⟨o, η1, e1, e2⟩ | ⟨c, p, η1, e1, rfl⟩
  · refine hh η σ as H Hs _ _ hR e1 fun zv as' H' Hs' r1 l1 x1 => ?_
    cases e3 : escS o η1 with
    | none =>
      rw [e3] at e2
      cases e2
    | some q =>
      obtain ⟨d, η2⟩ := q
      rw [e3] at e2
      simp only at e2
      obtain ⟨as2, Hs2, r2, x2, rd⟩ := escS_ok r1 l1 e3
      cases e4 : η2[i]? with
      | none =>
        rw [e4] at e2
        cases e2
      | some y =>
        cases y with
        | none =>
          rw [e4] at e2
          cases e2
        | some y =>
          rw [e4] at e2
          simp only at e2
          cases e5 : shObj y with
          | none =>
            rw [e5] at e2
            cases e2
          | some q =>
            obtain ⟨c, fs, ds⟩ := q
            rw [e5] at e2
            simp only at e2
            by_cases hc : cf c = true ∧ fs.length < 1000
            · rw [if_pos hc] at e2
              obtain rfl : res = .ok .next _ := (Option.some.inj e2).symm
              obtain rfl := shObj_inv e5
              obtain ⟨a, dx, vs, ev, ha, hl, rds, mk⟩ := Rep.mutO r2 e4
              obtain ⟨cl, na⟩ := hfc c hc.1
              refine ⟨_, ev, a, C c, dx, _, rfl, ha, cl, na, ?_, ?_⟩
              · rw [List.length_zip, ← hl, Nat.min_self]
                exact hc.2
              · rw [putF_zip f zv hl]
                obtain ⟨as5, r5, x5⟩ := mk (putFs f fs) (putAs f d fs ds) (putAs f zv fs vs) (putAs_len f zv hl) (putAs_rep hl rds rd)
                exact hp σ as5 _ _ r5 (x1.trans (x2.trans x5)) Kept.refl
            · rw [if_neg hc] at e2
              cases e2
  · exact hh η σ as H Hs _ _ hR e1 (PostX.toS hp)

def envS (sc : Scope) : PySem.Env := { scope := sc, locals := 0, globals := 0, cells := [] }
theorem swapped_eq {ts : List Expr} {v : Expr} {e1 e2 : PySem.Env} (h : e1.scope = e2.scope) : swappedStores ts v e1 = swappedStores ts v e2 := by
  have hk : ∀ y, e1.kindOf y = e2.kindOf y := fun y => by unfold Env.kindOf; rw [h]
  have hb : e1.blockKind = e2.blockKind := by unfold Env.blockKind; rw [h]
  unfold swappedStores
  simp only [hk, hb]
theorem swapped_of (ok : Cok M S k W X) {ts : List Expr} {v : Expr} {r : Option (List Str)} (h : swappedStores ts v (envS S.sc) = pure r) : swappedStores ts v X.env = pure r := by
  rw [swapped_eq (e2 := envS S.sc) (by rw [ok.sc]; rfl)]
  exact h
theorem ok_par' {i j : Nat} {x y : Str} {a b : Expr} {g : FL} {px py pt : Pos} {kt k2 : Nat} {pt2 : Pos} (ok : Cok M S k W X) (hi : S.N[i]? = some x) (hj : S.N[j]? = some y) (hij : i ≠ j) (hx : S.sc.names.lookup x = some .local) (hy : S.sc.names.lookup y = some .local)
    (ki : i ∉ kp) (kj : j ∉ kp) (ha : OkL M X W [a, b] g) (hw : swappedStores [.Tuple [.Name x px, .Name y py] kt pt] (.Tuple [a, b] k2 pt2) (envS S.sc) = pure (some [x, y])) :
    OkS M X W kp (.Assign [.Tuple [.Name x px, .Name y py] kt pt] (.Tuple [a, b] k2 pt2) pos) (fPar i j g) := ok_par ok hi hj hij hx hy ki kj ha (swapped_of ok hw)
theorem ok_asg' {tg e : Expr} {g : FG} {f : FO} (ok : Cok M S k W X) (he : OkO M X W e f) (hg : OkG M X kp tg g) (hs : noComp e = true) (hw : swappedStores [tg] e (envS S.sc) = pure none) (hst : noStar tg = true) : OkS M X W kp (.Assign [tg] e pos) (fAsg g f) :=
  ok_asg he hg (by unfold swapsWithSole; exact swaps_no hs) (swapped_of ok hw) hst

theorem lit_int {i : Int} : OkO M X W (.Constant (.int i) 0 pos) (fLit (.int i)) := ok_lit pe_int fun _ => by simp only [RepD]
theorem lit_bl {b : Bool} : OkO M X W (.Constant (.bool b) 0 pos) (fLit (.bl b)) := ok_lit pe_bl fun _ => by simp only [RepD]
theorem lit_non : OkO M X W (.Constant .none 0 pos) (fLit .non) := ok_lit pe_non fun _ => by simp only [RepD]
theorem lit_str {s : Str} : OkO M X W (.Constant (.str s) 0 pos) (fLit (.str s)) := ok_lit pe_str fun _ => by simp only [RepD]
/-- a constant of the module -/
structure Gn (M : Md) (S : Sc) (x : Str) (d : D) : Prop where
  gl : S.sc.names.lookup x = some .globalImplicit
  nd : (x == ("__debug__" : Str)) = false
  ex : ∃ v u, M.mg x = some u ∧ RelV v u ∧ ∀ Hs, RepD M.G Hs d v
theorem ok_glob {d : D} (ok : Cok M S k W X) (h : Gn M S x d) : OkO M X W (.Name x pos) (fLit d) := by
  obtain ⟨v, u, h1, h2, h3⟩ := h.ex
  exact ok_lit (pe_glob (gl_ok ok h.gl) (by have := ok.md; rw [← h1, ← this]; rfl) h2 h.nd) h3
/-- a built-in type's name, a class's name, as isinstance's second word -/
theorem pe_tyN (ok : Cok M S k W X) {T : String} (B : Bi M S x (.type T)) : PE X (.Name x p) (tC (.ty T)) := pe_bltn (gl_ok ok B.gl) (by have := ok.md; rw [← B.mg, ← this]; rfl) B.bo rfl B.nn B.nd
theorem pe_clsN (ok : Cok M S k W X) {c : Nat} (hg : S.sc.names.lookup x = some .globalImplicit) (hm : M.mg x = some (.ref (M.C c))) (hd : (x == ("__debug__" : Str)) = false) : PE X (.Name x p) (tC (.ref (M.C c))) := pe_glob (gl_ok ok hg) (by have := ok.md; rw [← hm, ← this]; rfl) rfl hd
end
end Wp
end
section
set_option Elab.async false
set_option linter.all false
set_option maxRecDepth 100000
set_option maxHeartbeats 4000000
namespace Wp
open PySem PySem.Spec PyProof.Rows L2
section
variable {P : Program} {w : World} {A : Around} {E : Value → Shared → Prop} {s : Shared}
set_option maxRecDepth 100000 in
set_option maxHeartbeats 3200000 in
end

section
variable {M : Md} {S : Sc} {k : Nat} {W : WX} {X : Cx} {a b c e : Expr} {es : List Expr} {fa fb fc : FO} {g : FL} {pos p : Pos} {x : Str}
end
end Wp
end
section
set_option Elab.async false
set_option linter.all false
set_option maxRecDepth 100000
namespace Wp
open PySem PySem.Spec PyProof.Rows L2

/-- what is reached, level by level, the seen ones kept as bits -/
def asQ1 : List Addr → Nat → List Addr → (Nat → List Addr → List Addr) → List Addr
  | [], s, acc, k => k s acc
  | a :: l, s, acc, k => match Nat.beq (Nat.land (Nat.shiftRight s a) 1) 0 with
    | true => HandSHeadRun.frNat (Nat.lor s (Nat.shiftLeft 1 a)) fun s => HandSHeadRun.frNat a fun a => asQ1 l s (a :: acc) k
    | false => asQ1 l s acc k
def asQ2 (g : Addr → Option Obj) : List Addr → Nat → List Addr → (Nat → List Addr → List Addr) → List Addr
  | [], s, acc, k => k s acc
  | a :: l, s, acc, k => match g a with
    | some o => asQ1 (He.refsD o) s acc fun s acc => asQ2 g l s acc k
    | none => asQ2 g l s acc k
def asQ3 (g : Addr → Option Obj) : Nat → List Addr → Nat → List Addr
  | 0, front, _ => front
  | n + 1, front, s => front ++ asQ2 g front s [] fun s acc => asQ3 g n acc s
def asQ (g : Addr → Option Obj) (n : Nat) : List Addr := asQ3 g n [mainGlobals] (Nat.shiftLeft 1 mainGlobals)
/-- the kit's facts and one more test of the written part -/
def obsK (n : Nat) (fa : List He.Fa) (fn : List He.DefD) (ex : PySem.W.Frag → Bool) (g : Addr → Option Obj) : He.AlD × Bool := (He.obsD fa fn (He.frG g (asQ g n)), ex (He.frG g (asQ g n)))
def hookK (n : Nat) (fa : List He.Fa) (fn : List He.DefD) (ex : PySem.W.Frag → Bool) : PySem.W.Hook where
  α := He.AlD × Bool
  obs := fun s => obsK n fa fn ex s.heap.get?
  val := fun _ => (He.valD fn, true)
  says := fun _ h => ∃ K : PySem.W.Frag, K.In h ∧ He.SaysD fa fn K ∧ ex K = true
  of := fun _ _ e => ⟨_, He.frG_in, congrArg (fun z : He.AlD × Bool => z.1) e, congrArg (fun z : He.AlD × Bool => z.2) e⟩
  keeps := fun _ _ _ ⟨K, hK, c, x⟩ k => ⟨K, PySem.W.Frag.In.keeps hK k, c, x⟩
theorem obsK_eq {n : Nat} {fa : List He.Fa} {fn : List He.DefD} {ex : PySem.W.Frag → Bool} {g : Addr → Option Obj} {s : Shared} (h : ∀ a, g a = s.heap.get? a) : obsK n fa fn ex g = (hookK n fa fn ex).obs s := by
  have e : g = s.heap.get? := funext h
  rw [e] <;> rfl
def insB (K : PySem.W.Frag) (x : Str) : Bool := (He.Fa.cls x).ok K && (He.eqO (PySem.W.findIn K (.ref (He.ga K x)) "__class__") (some (some (.builtin "object.__class__"))) && (He.eqO (PySem.W.specialIn K (.builtin "object.__class__") "__get__") (some (some (.builtin "getset_descriptor.__get__"))) &&
  (decide (PySem.W.takesIn K (.builtin "object.__class__") = some true) && decide (PySem.W.mroIn K (He.ga K x) (.type "object") = some true))))
theorem insB_ok {K : PySem.W.Frag} {x : Str} (h : insB K x = true) : C8.InsC K (He.ga K x) := by
  obtain ⟨h1, h⟩ := He.ba h
  obtain ⟨h2, h⟩ := He.ba h
  obtain ⟨h3, h⟩ := He.ba h
  obtain ⟨h4, h5⟩ := He.ba h
  exact ⟨He.cls_ok h1, He.eqO_ok h2, He.eqO_ok h3, of_decide_eq_true h4, of_decide_eq_true h5, if_pos (beq_self_eq_true _)⟩
/-- what isinstance tells of the built-in kinds and of the classes (by their names), for one class -/
def kitB2 (K : PySem.W.Frag) (u : Value) (bt : List (String × Bool)) (ct : List (Str × Bool)) : Bool := (bt.all fun p => decide (PySem.W.kitOne K (.type p.1) u = some p.2)) && ct.all fun p => insB K p.1 && decide (PySem.W.kitOne K (.ref (He.ga K p.1)) u = some p.2)
theorem lookup_mem {α β : Type} [BEq α] [LawfulBEq α] : ∀ {l : List (α × β)} {a : α} {b : β}, l.lookup a = some b → (a, b) ∈ l
  | (x, y) :: l, a, b, h => by
    by_cases e : a = x
    · subst e
      simp only [List.lookup_cons, beq_self_eq_true, Option.some.injEq] at h
      subst h
      exact List.mem_cons_self ..
    · have : (a == x) = false := beq_eq_false_iff_ne.mpr e
      simp only [List.lookup_cons, this] at h
      exact List.mem_cons_of_mem _ (lookup_mem h)
theorem isOk_of {M : Md} {u : Value} {bt : List (String × Bool)} {ct : List (Str × Bool)} {cn : List (Nat × Str)} (hC : ∀ n x, (n, x) ∈ cn → M.C n = He.ga M.K x) (h : kitB2 M.K u bt ct = true) (ctn : List (Nat × Bool)) (hcn : (ctn.all fun p => match cn.lookup p.1 with
    | some x => ct.contains (x, p.2)
    | none => false) = true) : IsOk M u bt ctn := by
  obtain ⟨h1, h2⟩ := He.ba h
  constructor
  · intro T r e
    exact of_decide_eq_true (List.all_eq_true.mp h1 _ (lookup_mem e))
  · intro n r e
    have m := List.all_eq_true.mp hcn _ (lookup_mem e)
    cases ec : cn.lookup n with
    | none => simp [ec] at m
    | some x =>
      simp only [ec] at m
      have m2 : (x, r) ∈ ct := by simpa using m
      obtain ⟨k1, k2⟩ := He.ba (List.all_eq_true.mp h2 _ m2)
      rw [hC n x (lookup_mem ec)]
      exact ⟨insB_ok k1, of_decide_eq_true k2⟩
end Wp
end
section
set_option Elab.async false
set_option linter.all false
set_option maxRecDepth 100000
namespace Wp
open PySem PySem.Spec PyProof.Rows L2

section
variable {M : Md} {S : Sc} {k : Nat} {W : WX} {X : Cx} {kp : List Nat} {a b c e : Expr} {es : List Expr} {fa fb fc : FO} {g : FL} {pos p : Pos} {x : Str}
theorem Cb.mono {j : Nat} {f : Addr} {F : FF} {n : Nat} {df : List D} (c : Cb M j f F n df) (h : j ≤ k) : Cb M k f F n df := by
  obtain ⟨fd, ps, G, hd⟩ := c.ex
  exact ⟨fd, ps, G.mono h, hd⟩
theorem Cb.of {f : Addr} {fd : FuncData} {ps : List Str} {F : FF} {n : Nat} (G : FnG M.prog M.w M.K M.mg M.base k f fd ps (spD M n F)) (hb : L2.Binds M.K fd ps []) : Cb M k f F n [] :=
  ⟨fd, ps, G, fun j hj => ⟨[], [], by
    have : j = 0 := by simpa using hj
    subst this
    rfl, .nil, hb⟩⟩
def fCallN (i : Fi) (na : Nat) (g : FL) : FO := fun η => bindR (g η) fun os η1 => if os.length = na then callR i.n i.ms i.F (i.dv na) os η1 else none
theorem ok_callN {i : Fi} {f : Addr} {na : Nat} (ok : Cok M S k W X) (hg : S.sc.names.lookup x = some .globalImplicit) (hm : M.mg x = some (.ref f)) (hk : PySem.W.keepIn M.K (.ref f) = true) (hdb : (x == ("__debug__" : Str)) = false)
    (c : Cb M k f i.F i.n i.df) (hs : (e :: es).all noStar = true) (hna : (e :: es).length = na) (hn : i.df.length + na - i.n ≤ i.df.length) (ha : OkL M X W (e :: es) g) : OkO M X W (.Call (.Name x p) (e :: es) [] pos) (fCallN i na g) := by
  subst hna
  exact ok_call ok hg hm hk hdb c hs hn ha
theorem ok_makeN {i : Fi} {c : Nat} {f : Addr} {j na : Nat} (ok : Cok M S (j + 1) W X) (hg : S.sc.names.lookup x = some .globalImplicit) (hm : M.mg x = some (.ref (M.C c))) (mk : Mk M.K (M.C c) f) (hdb : (x == ("__debug__" : Str)) = false)
    (cb : Cb M j f i.F i.n i.df) (hs : (e :: es).all noStar = true) (hna : (e :: es).length = na) (hn : i.df.length + (na + 1) - i.n ≤ i.df.length) (ha : OkL M X W (e :: es) g) : OkO M X W (.Call (.Name x p) (e :: es) [] pos) (fMake c na i g) := by
  subst hna
  exact ok_make ok hg hm mk hdb cb hs hn ha
end
theorem gs_nil {ys : List Val} {η η1 : Wp.Env} (h : gsNil ys η = some η1) : ys.length = 0 := by
  cases ys with
  | nil => rfl
  | cons _ _ => cases h
theorem gs_cons {f : FG} {g : List Val → Wp.Env → Option Wp.Env} {n : Nat} (hg : ∀ {ys : List Val} {η η1 : Wp.Env}, g ys η = some η1 → ys.length = n) {ys : List Val} {η η1 : Wp.Env} (h : gsCons f g ys η = some η1) : ys.length = n + 1 := by
  cases ys with
  | nil => cases h
  | cons y ys =>
    simp only [gsCons, Option.bind_eq_some_iff] at h
    obtain ⟨η2, _, h2⟩ := h
    rw [List.length_cons, hg h2]
/-- what the boot knows -/
theorem bo_len : bootBuiltins "len" = some (.builtin "len") := by decide +kernel
theorem bo_sum : bootBuiltins "sum" = some (.builtin "sum") := by decide +kernel
theorem bo_max : bootBuiltins "max" = some (.builtin "max") := by decide +kernel
theorem bo_min : bootBuiltins "min" = some (.builtin "min") := by decide +kernel
theorem bo_abs : bootBuiltins "abs" = some (.builtin "abs") := by decide +kernel
theorem bo_repr : bootBuiltins "repr" = some (.builtin "repr") := by decide +kernel
theorem bo_isinstance : bootBuiltins "isinstance" = some (.builtin "isinstance") := by decide +kernel
theorem bo_int : bootBuiltins "int" = some (.type "int") := by decide +kernel
theorem bo_bool : bootBuiltins "bool" = some (.type "bool") := by decide +kernel
theorem bo_str : bootBuiltins "str" = some (.type "str") := by decide +kernel
theorem bo_list : bootBuiltins "list" = some (.type "list") := by decide +kernel
theorem bo_tuple : bootBuiltins "tuple" = some (.type "tuple") := by decide +kernel
theorem bo_dict : bootBuiltins "dict" = some (.type "dict") := by decide +kernel
end Wp
namespace Wp
open PySem PySem.Spec PyProof.Rows L2
theorem law_sp {M : Md} {F : FF} {ns : List Int} {a : Addr} {H : Hp} (h : ∃ θ, F [.sh (.lst (ns.map .int))] = some (.ok (.sh (.bl true)) θ)) (hS : SqL M.K H a (ns.map V.int)) : spD M 1 F [.ref a] H (fun v _ => v = .bl true) fun _ _ _ => False := by
  obtain ⟨θ, h⟩ := h
  refine ⟨rfl, [.sh (.lst (ns.map .int))], [], H, _, ⟨Le.refl, ⟨.ref a, [], [], [], rfl, rfl, RepV.sh_iff.mpr ⟨rfl, ?_⟩, rfl, rfl⟩, List.nodup_nil, (fun _ z => nomatch z), fun _ _ z => z⟩, h, fun v as' H' Hs' r _ => ?_⟩
  · simp only [RepD]
    exact ⟨a, ns.map V.int, rfl, hS, RepDs.ofInts ns⟩
  · obtain ⟨u, σ, a1, a2, e1, rfl, rv, _⟩ := r.env
    obtain ⟨e2, rfl⟩ := List.cons.inj e1
    obtain rfl := Option.some.inj e2
    obtain ⟨rfl, rd⟩ := RepV.sh_iff.mp rv
    simpa only [RepD] using rd
end Wp
end
section
set_option Elab.async false
set_option linter.all false
set_option maxRecDepth 100000
namespace Wp
open PySem PySem.Spec PyProof.Rows L2

structure Lf (p : Prop) : Prop where
  h : p
structure Gp (p : Prop) : Prop where
  h : p
structure Sz (p : Prop) : Prop where
  h : p
section
variable {η η0 η1 η2 η3 η4 : Env} {o p : Opv} {os : List Opv} {fa fb fc f : FO} {g : FL} {x y z : Val} {d e : D} {ds : List D} {i j : Nat} {b : Bool}
theorem e_var (h : Lf (η[i]? = some (some y))) : fVar i η = some (.ok (.slot i) η) := by
  unfold fVar
  rw [h.h]
  rfl
theorem e_lit : fLit d η = some (.ok (.pend (.sh d)) η) := rfl
theorem e_app1 {g : D → Option Val} (h : Lf (prepAll [o] η = some ([d], η1))) (hg : Gp (g d = some z)) : appR (p1 g) [o] η = some (.ok (.pend z) η1) := by
  unfold appR
  rw [h.h]
  simp only [p1, hg.h, okR]
theorem e_app2 {g : D → D → Option Val} (h : Lf (prepAll [o, p] η = some ([d, e], η1))) (hg : Gp (g d e = some z)) : appR (p2 g) [o, p] η = some (.ok (.pend z) η1) := by
  unfold appR
  rw [h.h]
  simp only [p2, hg.h, okR]
theorem e_f1 {pr : List D → Option Val} {r : RO Opv} (h : fa η = some (.ok o η1)) (hp : appR pr [o] η1 = r) : f1 fa pr η = r := by
  unfold f1
  rw [h]
  exact hp
theorem e_f2 {pr : List D → Option Val} {r : RO Opv} (h : fa η = some (.ok o η1)) (h2 : fb η1 = some (.ok p η2)) (hp : appR pr [o, p] η2 = r) : f2 fa fb pr η = r := by
  unfold f2
  rw [h, bindR_some, h2]
  exact hp
theorem e_fn {pr : List D → Option Val} {r : RO Opv} (h : g η = some (.ok os η1)) (hp : appR pr os η1 = r) : fn g pr η = r := by
  unfold fn
  rw [h]
  exact hp
theorem e_nil : fNil η = some (.ok [] η) := rfl
theorem e_cons (h : f η = some (.ok o η1)) (h2 : g η1 = some (.ok os η2)) : fCons f g η = some (.ok (o :: os) η2) := by
  unfold fCons
  rw [h, bindR_some, h2]
  rfl
theorem ok_ok {α : Type} {a : α} : okR a η = some (.ok a η) := rfl
theorem c_t {α : Type} {b : Bool} {x y r : α} (hb : b = true) (h : x = r) : (if b = true then x else y) = r := by
  rw [if_pos hb]
  exact h
theorem c_f {α : Type} {b : Bool} {x y r : α} (hb : b = false) (h : y = r) : (if b = true then x else y) = r := by
  rw [if_neg (by rw [hb]; decide)]
  exact h
theorem e_bl (h : f η = some (.ok (.pend (.sh (.bl b))) η1)) : fBl f η = some (.ok b η1) := by
  unfold fBl
  rw [h]
  rfl
theorem e_tru (h : f η = some (.ok o η1)) (h2 : Lf (prepAll [o] η1 = some ([d], η2))) (h3 : Gp (truthD d = some b)) : fTru f η = some (.ok b η2) := by
  unfold fTru truR
  rw [h, bindR_some]
  simp only [h2.h, h3.h, okR]
variable {ca cb : FT}
theorem e_notT (h : ca η = some (.ok b η1)) : fNotT ca η = some (.ok (!b) η1) := by
  unfold fNotT
  rw [h]
  rfl
theorem e_andT {r : RO Bool} (h : ca η = some (.ok b η1)) (h2 : (if b = true then cb η1 else okR false η1) = r) : fAndT ca cb η = r := by
  unfold fAndT
  rw [h]
  exact h2
theorem e_orT {r : RO Bool} (h : ca η = some (.ok b η1)) (h2 : (if b = true then okR true η1 else cb η1) = r) : fOrT ca cb η = r := by
  unfold fOrT
  rw [h]
  exact h2
theorem e_andV {r : RO Opv} (h : fa η = some (.ok (.pend (.sh (.bl b))) η1)) (h2 : (if b = true then fb η1 else okR (.pend (.sh (.bl false))) η1) = r) : fAndV fa fb η = r := by
  unfold fAndV
  rw [h]
  exact h2
theorem e_orV {r : RO Opv} (h : fa η = some (.ok (.pend (.sh (.bl b))) η1)) (h2 : (if b = true then okR (.pend (.sh (.bl true))) η1 else fb η1) = r) : fOrV fa fb η = r := by
  unfold fOrV
  rw [h]
  exact h2
theorem e_notV (h : fa η = some (.ok (.pend (.sh (.bl b))) η1)) : fNotV fa η = some (.ok (.pend (.sh (.bl (!b)))) η1) := by
  unfold fNotV
  rw [h]
  rfl
theorem e_ite {r : RO Opv} (h : ca η = some (.ok b η1)) (h2 : (if b = true then fa η1 else fb η1) = r) : fIte ca fa fb η = r := by
  unfold fIte
  rw [h]
  exact h2
variable {xs ys : List Val} {k : List Val → Val}
theorem e_disp (h : g η = some (.ok os η1)) (h2 : Lf (escAll os η1 = some (xs, η2))) (h3 : Sz (xs.length ≤ sizeLine)) (h4 : Lf (k xs = z)) : fDisp k g η = some (.ok (.pend z) η2) := by
  unfold fDisp
  rw [h, bindR_some]
  simp only [h2.h]
  rw [if_pos h3.h, h4.h]
  rfl
theorem e_pt0 : fPart none η = some (.ok none η) := rfl
theorem e_pt1 {i : Int} (h : f η = some (.ok o η1)) (h2 : Lf (prepAll [o] η1 = some ([.int i], η2))) : fPart (some f) η = some (.ok (some i) η2) := by
  unfold fPart
  simp only [h, bindR_some, h2.h, okR]
theorem e_slice {fl fh : Option FO} {l h : Option Int} (h1 : fa η = some (.ok o η1)) (h2 : fPart fl η1 = some (.ok l η2)) (h3 : fPart fh η2 = some (.ok h η3)) (h4 : Lf (prepAll [o] η3 = some ([d], η4))) (h5 : Gp (gSl l h d = some z)) : fSlice fa fl fh η = some (.ok (.pend z) η4) := by
  unfold fSlice
  rw [h1, bindR_some, h2, bindR_some, h3, bindR_some]
  exact e_app1 h4 h5
variable {it : FI} {gt : FG} {body : FS} {vs : List Nat} {n : Nat}
theorem e_lc {r : RO Opv} (h : it η = some (.ok ys η1)) (h2 : Lf (η1.length = n)) (h3 : Lf (wipeE η1 vs = η2)) (h4 : loopC n vs gt ca f ys [] η2 = r) : fLc n vs it gt ca f η = r := by
  unfold fLc
  rw [h, bindR_some, if_pos h2.h, h3.h]
  exact h4
theorem lc_nil {acc acc' : List Val} (h : Lf (acc = acc')) : loopC n vs gt ca f [] acc η = some (.ok (.pend (.ol acc')) η) := by
  rw [h.h]
  rfl
def putC (n : Nat) (vs : List Nat) (gt : FG) (ca : FT) (f : FO) (ys acc : List Val) : FO := fun η => bindR (f η) fun o η3 => match esc1 o η3 with
  | some (z, η4) => if acc.length < sizeLine then loopC n vs gt ca f ys (acc ++ [z]) (wipeE η4 vs) else none
  | none => none
def skipC (n : Nat) (vs : List Nat) (gt : FG) (ca : FT) (f : FO) (ys acc : List Val) : FO := fun η => loopC n vs gt ca f ys acc (wipeE η vs)
theorem lc_cons {acc : List Val} {ro : Opv} {η9 : Env} (h : Lf (gt y η = some η1)) (h2 : Lf (η1.length = n)) (h3 : ca η1 = some (.ok b η2)) (h4 : (if b = true then putC n vs gt ca f ys acc η2 else skipC n vs gt ca f ys acc η2) = some (.ok ro η9)) : loopC n vs gt ca f (y :: ys) acc η = some (.ok ro η9) := by
  simp only [loopC, h.h, h2.h, if_true, h3]
  cases b with
  | false => exact h4
  | true =>
    rw [if_pos rfl] at h4
    unfold putC at h4
    cases e : f η2 with
    | none => rw [e] at h4; cases h4
    | some r => cases r with
      | exc _ _ _ => rw [e] at h4; cases h4
      | ok o η3 =>
        rw [e, bindR_some] at h4
        cases e3 : esc1 o η3 with
        | none => simp only [e3] at h4; cases h4
        | some zz =>
          obtain ⟨z, η4⟩ := zz
          simp only [e3] at h4
          simp only [if_true, e, e3]
          exact h4
theorem lc_put {acc acc' : List Val} {r : RO Opv} (h : f η = some (.ok o η1)) (h2 : Lf (esc1 o η1 = some (z, η2))) (h3 : Sz (acc.length < sizeLine)) (h4 : Lf (wipeE η2 vs = η3)) (h6 : Lf (acc ++ [z] = acc')) (h5 : loopC n vs gt ca f ys acc' η3 = r) : putC n vs gt ca f ys acc η = r := by
  unfold putC
  rw [h, bindR_some]
  simp only [h2.h, if_pos h3.h, h4.h, h6.h, h5]
theorem lc_skip {acc : List Val} {r : RO Opv} (h4 : Lf (wipeE η vs = η3)) (h5 : loopC n vs gt ca f ys acc η3 = r) : skipC n vs gt ca f ys acc η = r := by
  unfold skipC
  rw [h4.h]
  exact h5
theorem e_yes : fYes η = some (.ok true η) := rfl
def itemsX (y : Val) : Option (List Val) := match itemsL y with
  | some ys => some ys
  | none => itemsT y
theorem e_seqI (h : f η = some (.ok o η1)) (h2 : Lf (esc1 o η1 = some (y, η2))) (h3 : Gp (itemsX y = some ys)) : fSeqI f η = some (.ok ys η2) := by
  unfold fSeqI
  rw [h, bindR_some]
  simp only [h2.h]
  have h3 := h3.h
  unfold itemsX at h3
  cases e : itemsL y with
  | some zs =>
    rw [e] at h3
    obtain rfl := Option.some.inj h3
    rfl
  | none =>
    rw [e] at h3
    simp only at h3 ⊢
    rw [h3]
    rfl
theorem e_enum (h : f η = some (.ok o η1)) (h2 : Lf (esc1 o η1 = some (y, η2))) (h3 : Gp (shItems y = some ds)) : fEnum f η = some (.ok (numV 0 ds) η2) := by
  unfold fEnum
  rw [h, bindR_some]
  simp only [h2.h, h3.h, okR]
theorem e_rng1 {j : Int} (h : g η = some (.ok [o] η1)) (h2 : Lf (prepAll [o] η1 = some ([.int j], η2))) (h3 : Sz (small62 j = true)) : fRng1 g η = some (.ok (rngV 0 j.toNat) η2) := by
  unfold fRng1 dataR
  rw [h, bindR_some]
  simp only [List.length_cons, List.length_nil, Nat.zero_add, if_true, h2.h, okR, bindR_some, h3.h]
theorem e_rng2 {i j : Int} (h : g η = some (.ok [o, p] η1)) (h2 : Lf (prepAll [o, p] η1 = some ([.int i, .int j], η2))) (h3 : Sz (small62 i = true)) (h4 : Sz (small62 j = true)) : fRng2 g η = some (.ok (rngV i (j - i).toNat) η2) := by
  unfold fRng2 dataR
  rw [h, bindR_some]
  simp only [List.length_cons, List.length_nil, Nat.zero_add, Nat.reduceAdd, if_true, h2.h, okR, bindR_some, h3.h, h4.h, Bool.and_self]
variable {F : FF} {ms : List Bool} {na : Nat} {θ : Env} {q : Fi}
theorem callR_e (h : Lf (argAll ms os η = some (xs, η1))) (h2 : os.length = n) (hF : F xs = some (.ok x θ)) (hb : backAll os θ η1 = η2) : callR n ms F [] os η = some (.ok (.pend x) η2) := by
  unfold callR
  rw [h.h]
  simp only [List.length_nil, Nat.add_zero, h2, if_true, List.map_nil, List.append_nil, hF, hb]
theorem e_call (hi : Lf (q = ⟨F, n, ms, []⟩)) (hg : g η = some (.ok os η1)) (ha : Lf (argAll ms os η1 = some (xs, η2))) (hn : Lf (os.length = na)) (hn2 : Lf (os.length = n)) (hF : F xs = some (.ok x θ)) (hb : Lf (backAll os θ η2 = η3)) : fCallN q na g η = some (.ok (.pend x) η3) := by
  obtain ⟨rfl⟩ := hi
  unfold fCallN
  rw [hg, bindR_some, if_pos hn.h]
  simp only [show (Fi.dv ⟨F, n, ms, []⟩ na) = [] from by simp [Fi.dv]]
  exact callR_e ha hn2.h hF hb.h
theorem e_make {c : Nat} (hi : Lf (q = ⟨F, n, ms, []⟩)) (hg : g η = some (.ok os η1)) (ha : Lf (argAll ms (.pend (.oi c [] []) :: os) η1 = some (xs, η2))) (hn : Lf (os.length = na)) (hn2 : Lf (os.length + 1 = n)) (hF : F xs = some (.ok (.sh .non) (some y :: θ))) (hb : Lf (backAll os θ η2 = η3)) :
    fMake c na q g η = some (.ok (.pend y) η3) := by
  obtain ⟨rfl⟩ := hi
  unfold fMake
  rw [hg, bindR_some, if_pos hn.h]
  simp only [show (Fi.dv ⟨F, n, ms, []⟩ (na + 1)) = [] from by simp [Fi.dv]]
  unfold makeR
  rw [ha.h]
  simp only [List.length_nil, Nat.add_zero, hn2.h, if_true, List.map_nil, List.append_nil, hF, hb.h]
theorem e_attr {fd : Nat → Bool} {pt : Nat → Option Fi} {m : Str} {c : Nat} {fs : List Str} (ho : fa η = some (.ok o η1)) (hc : Lf (o.cls η1 = some (c, fs))) (hm : Lf ((decide (m ∈ fs)) = true)) (hf : Lf (fd c = true)) (hp : Lf (prepAll [o] η1 = some (ds, η2))) (hg : Gp (fieldG m ds = some z)) :
    fAttr fd pt m fa η = some (.ok (.pend z) η2) := by
  unfold fAttr
  rw [ho, bindR_some]
  simp only [hc.h]
  rw [if_pos (of_decide_eq_true hm.h), if_pos hf.h]
  unfold appR
  rw [hp.h]
  simp only [hg.h, okR]
variable {w : Flw} {s t : FS}
def sqF : Flw → FS → FS
  | .next, t, η => t η
  | w, _, η => okR w η
theorem e_seq {r : RO Flw} (h : s η = some (.ok w η1)) (h2 : sqF w t η1 = r) : fSeq s t η = r := by
  unfold fSeq
  rw [h, bindR_some, ← h2]
  cases w <;> rfl
theorem sq_n {r : RO Flw} (h : t η = r) : sqF .next t η = r := h
theorem sq_r : sqF (.ret x) t η = some (.ok (.ret x) η) := rfl
theorem sq_b : sqF .brk t η = some (.ok .brk η) := rfl
theorem sq_c : sqF .cont t η = some (.ok .cont η) := rfl
theorem e_set (h : f η = some (.ok o η1)) (h2 : Lf (esc1 o η1 = some (x, η2))) (h3 : Lf (decide (i < η2.length) = true)) (h4 : Lf (η2.set i (some x) = η3)) : fSet i f η = some (.ok .next η3) := by
  unfold fSet
  rw [h, bindR_some]
  simp only [h2.h]
  rw [if_pos (of_decide_eq_true h3.h), h4.h]
  rfl
theorem e_par (h : g η = some (.ok os η1)) (h2 : Lf (escAll os η1 = some ([x, y], η2))) (h3 : Lf (decide (i < η2.length ∧ j < η2.length) = true)) (h4 : Lf ((η2.set i (some x)).set j (some y) = η3)) : fPar i j g η = some (.ok .next η3) := by
  unfold fPar
  rw [h, bindR_some]
  simp only [h2.h]
  rw [if_pos (of_decide_eq_true h3.h), h4.h]
  rfl
theorem e_asg (h : f η = some (.ok o η1)) (h2 : Lf (esc1 o η1 = some (x, η2))) (h3 : Lf (gt x η2 = some η3)) : fAsg gt f η = some (.ok .next η3) := by
  unfold fAsg
  rw [h, bindR_some]
  simp only [h2.h, h3.h, okR]
theorem e_expr (h : f η = some (.ok o η1)) : fExpr f η = some (.ok .next η1) := by
  unfold fExpr
  rw [h]
  rfl
theorem e_app {us : List Val} (h : Lf (η[i]? = some (some (.ol us)))) (h1 : f η = some (.ok o η1)) (h2 : Lf (esc1 o η1 = some (z, η2))) (h3 : Lf (η2[i]? = some (some (.ol xs)))) (h4 : Sz (xs.length < sizeLine)) (h5 : Lf (η2.set i (some (.ol (xs ++ [z]))) = η3)) :
    fApp i f η = some (.ok (.pend (.sh .non)) η3) := by
  unfold fApp
  rw [h.h]
  simp only [h1, bindR_some, h2.h, h3.h]
  rw [if_pos h4.h, h5.h]
  rfl
theorem e_ret (h : f η = some (.ok o η1)) (h2 : Lf (esc1 o η1 = some (x, η2))) : fRet f η = some (.ok (.ret x) η2) := by
  unfold fRet
  rw [h, bindR_some]
  simp only [h2.h, okR]
theorem e_retN : fRetN η = some (.ok (.ret (.sh .non)) η) := rfl
theorem e_nxt : fNext η = some (.ok .next η) := rfl
theorem e_flw : fFlw w η = some (.ok w η) := rfl
theorem e_if {r : RO Flw} (h : ca η = some (.ok b η1)) (h2 : (if b = true then s η1 else t η1) = r) : fIf ca s t η = r := by
  unfold fIf
  rw [h]
  exact h2
theorem e_for {r : RO Flw} (h : it η = some (.ok ys η1)) (h2 : loopF gt body ys η1 = r) : fFor gt body it η = r := by
  unfold fFor
  rw [h]
  exact h2
theorem lp_nil : loopF gt body [] η = some (.ok .next η) := rfl
def lpF (gt : FG) (body : FS) (ys : List Val) : Flw → FS
  | .next, η => loopF gt body ys η
  | .cont, η => loopF gt body ys η
  | .brk, η => okR .next η
  | .ret x, η => okR (.ret x) η
theorem lp_cons {r : RO Flw} (h : Lf (gt y η = some η1)) (h2 : body η1 = some (.ok w η2)) (h3 : lpF gt body ys w η2 = r) : loopF gt body (y :: ys) η = r := by
  simp only [loopF, h.h, h2]
  rw [← h3]
  cases w <;> rfl
theorem lp_n {r : RO Flw} (h : loopF gt body ys η = r) : lpF gt body ys .next η = r := h
theorem lp_c {r : RO Flw} (h : loopF gt body ys η = r) : lpF gt body ys .cont η = r := h
theorem lp_b : lpF gt body ys .brk η = some (.ok .next η) := rfl
theorem lp_r : lpF gt body ys (.ret x) η = some (.ok (.ret x) η) := rfl
theorem e_setI {v : D} {j : Int} {nn : Nat} (h : fa η = some (.ok o η1)) (h2 : Lf (escS o η1 = some (v, η2))) (h3 : Lf (isOl η2 i = true)) (h4 : fb η2 = some (.ok p η3)) (h5 : Lf (prepAll [p] η3 = some ([.int j], η4))) (h6 : Lf (η4[i]? = some (some y))) (h7 : Lf (shList y = some ds)) (h8 : Lf (ixN ds.length j = some nn))
    (h9 : Lf (η4.set i (some (.ol ((ds.set nn v).map .sh))) = η0)) : fSetI i fa fb η = some (.ok .next η0) := by
  unfold fSetI
  rw [h, bindR_some]
  simp only [h2.h, h3.h, if_true, h4, bindR_some, h5.h, h6.h, h7.h, h8.h, h9.h, okR]
theorem e_setF {fd : Nat → Bool} {m : Str} {v : D} {c : Nat} {fs : List Str} (h : f η = some (.ok o η1)) (h2 : Lf (escS o η1 = some (v, η2))) (h3 : Lf (η2[i]? = some (some y))) (h4 : Lf (shObj y = some (c, fs, ds))) (h5 : Lf (decide (fd c = true ∧ fs.length < 1000) = true)) (h6 : Lf (η2.set i (some (.oi c (putFs m fs) ((putAs m v fs ds).map .sh))) = η3)) :
    fSetF fd i m f η = some (.ok .next η3) := by
  unfold fSetF
  rw [h, bindR_some]
  simp only [h2.h, h3.h, h4.h]
  rw [if_pos (of_decide_eq_true h5.h), h6.h]
  rfl
def outF (raw : Bool) : Flw → Option Val
  | .ret x => some (if raw then x else .sh x.d)
  | .next => some (.sh .non)
  | _ => none
theorem e_sem {len : Nat} {kp : List Nat} {raw : Bool} (h0 : Lf (xs.map some ++ List.replicate (len - xs.length) none = η)) (h : s η = some (.ok w η1)) (h2 : Lf (outF raw w = some y)) (h3 : Lf (decide (n ≤ η1.length) = true)) (h4 : Lf (theta kp 0 n η1 = θ)) : semF n len kp raw s xs = some (.ok y θ) := by
  unfold semF
  rw [h0.h, h]
  have h2 := h2.h
  have h3 := of_decide_eq_true h3.h
  cases w with
  | ret x =>
    simp only [outF, Option.some.injEq] at h2
    simp only [if_pos h3, h2, h4.h]
  | next =>
    simp only [outF, Option.some.injEq] at h2
    simp only [if_pos h3, h2, h4.h]
  | brk => cases h2
  | cont => cases h2
end
end Wp
end
section
set_option Elab.async false
set_option linter.all false
set_option maxRecDepth 100000
set_option maxHeartbeats 1000000
namespace Wp
open PySem PySem.Spec PyProof.Rows L2
section
variable {prog : Program} {w : World} {A : Around} {E : Value → Shared → Prop} {s : Shared} {K : PySem.W.Frag} {x C L f : Addr} {h₀ : Heap} {m : Str → Option Value} {ox : Obj} {od : Option Obj} {b tb : Value}
end
end Wp
end
section
set_option Elab.async false
set_option linter.all false
set_option maxRecDepth 100000
set_option maxHeartbeats 1000000
namespace Wp
open PySem PySem.Spec PyProof.Rows L2
def fNeO (mt : Nat → Option Fi) (fa fb : FO) : FO := fun η => bindR (fa η) fun o η1 => bindR (fb η1) fun o2 η2 => match o.cls η2, o2.cls η2 with
  | some (c, _), some (c2, _) => if c = c2 then (match mt c with
    | some i => (match callR i.n i.ms i.F (i.dv 2) [o, o2] η2 with
      | some (.ok (.pend (.sh (.bl b))) η3) => okR (.pend (.sh (.bl (!b)))) η3
      | _ => none)
    | none => none) else none
  | _, _ => none
section
variable {M : Md} {S : Sc} {k : Nat} {W : WX} {X : Cx} {kp : List Nat} {a b : Expr} {fa fb : FO} {pos : Pos}
end
end Wp
end
section
set_option Elab.async false
set_option linter.all false
set_option maxRecDepth 100000
set_option maxHeartbeats 1000000
namespace Wp
open PySem PySem.Spec PyProof.Rows L2
theorem escAll_len : ∀ (os : List Opv) (η : Env) (xs : List Val) (η' : Env), escAll os η = some (xs, η') → η'.length = η.length ∧ xs.length = os.length := by
  intro os
  induction os with
  | nil => intro η xs η' h; simp only [escAll, Option.some.injEq, Prod.mk.injEq] at h; rw [h.2, ← h.1]; exact ⟨rfl, rfl⟩
  | cons o os ih =>
    intro η xs η' h
    simp only [escAll] at h
    cases q1 : esc1 o η with
    | none => rw [q1] at h; cases h
    | some z =>
      obtain ⟨y', ηy⟩ := z
      rw [q1] at h
      simp only at h
      have ly : ηy.length = η.length := by
        cases o with
        | pend y0 => simp only [esc1, Option.some.injEq, Prod.mk.injEq] at q1; rw [q1.2]
        | slot i0 =>
          simp only [esc1] at q1
          cases e0 : η[i0]? with
          | none => rw [e0] at q1; cases q1
          | some u => cases u with
            | none => rw [e0] at q1; cases q1
            | some u => rw [e0] at q1; simp only [Option.some.injEq, Prod.mk.injEq] at q1; rw [← q1.2, List.length_set]
      cases q2 : escAll os ηy with
      | none => rw [q2] at h; cases h
      | some z2 =>
        obtain ⟨ys, ηz⟩ := z2
        rw [q2] at h
        simp only [Option.some.injEq, Prod.mk.injEq] at h
        obtain ⟨i1, i2⟩ := ih _ _ _ q2
        rw [← h.2, ← h.1]
        exact ⟨by rw [i1, ly], by rw [List.length_cons, List.length_cons, i2]⟩
def fPar3 (i j l : Nat) (g : FL) : FS := fun η => bindR (g η) fun os η1 => match escAll os η1 with
  | some ([x, y, z], η2) => if i < η2.length ∧ j < η2.length ∧ l < η2.length then okR .next (((η2.set i (some x)).set j (some y)).set l (some z)) else none
  | _ => none
section
variable {M : Md} {S : Sc} {k : Nat} {W : WX} {X : Cx} {kp : List Nat} {a b c : Expr} {fa fb : FO} {pos : Pos}
end
end Wp
end
section
set_option Elab.async false
set_option linter.all false
set_option maxRecDepth 100000
set_option maxHeartbeats 1000000
namespace Wp
open PySem PySem.Spec PyProof.Rows L2 PySem.SeqAt
open AutoSeq1 (wpAny_loadPart')
open MeetsSeq MeetsSeq2 MeetsSeq3 SeqRoads2
section
variable {prog : Program} {w : World} {A : Around} {R : Result → Shared → Prop} {E : Value → Shared → Prop} {s : Shared}
end
end Wp
end
section
set_option Elab.async false
set_option linter.all false
set_option maxRecDepth 100000
set_option maxHeartbeats 1000000
namespace Wp
open PySem PySem.Spec PyProof.Rows L2
section
variable {M : Md} {S : Sc} {k : Nat} {W : WX} {X : Cx} {kp : List Nat} {a b : Expr} {fa fb : FO} {pos : Pos}
end
end Wp
end
section
set_option Elab.async false
set_option linter.all false
set_option maxRecDepth 100000
namespace Wp
open PySem PySem.Spec PyProof.Rows L2
/-- != by a class's own == -/
def neB (K : PySem.W.Frag) (x : Str) : Bool := He.eqO (PySem.W.findIn K (.ref (He.ga K x)) "__ne__") (some (some (.builtin "object.__ne__"))) && decide (PySem.W.mroIn K (He.ga K x) (.type "object") = some true)
end Wp
end
section
set_option Elab.async false
set_option linter.all false
set_option maxRecDepth 100000
namespace Wp
open PySem PySem.Spec PyProof.Rows L2
theorem ConstD.drop {G : Gc} : ∀ {ds : List D} {vs : List V} (j : Nat), ConstD G ds vs → ConstD G (ds.drop j) (vs.drop j)
  | ds, vs, 0, h => h
  | [], vs, j + 1, h => by
    obtain rfl : vs = [] := h
    rfl
  | d :: ds, vs, j + 1, h => by
    obtain ⟨v, ws, rfl, _, t⟩ := h
    exact ConstD.drop j t
end Wp
end
section
set_option Elab.async false
set_option linter.all false
set_option maxRecDepth 100000
set_option maxHeartbeats 1000000
namespace Wp
open PySem PySem.Spec PyProof.Rows L2
section
variable {M : Md} {S : Sc} {k : Nat} {W : WX} {X : Cx} {a b c e : Expr} {es : List Expr} {fa fb fc : FO} {g : FL} {pos p : Pos} {x : Str}
end
end Wp
end
section
set_option Elab.async false
set_option linter.all false
set_option maxRecDepth 100000
set_option maxHeartbeats 1000000
namespace Wp
open PySem PySem.Spec PyProof.Rows L2
section
variable {prog : Program} {w : World} {A : Around} {E : Value → Shared → Prop} {s : Shared} {K : PySem.W.Frag} {x C L f : Addr} {ox : Obj} {od : Option Obj} {b tb : Value}
end
def sharE (η : Env) : Env := η.map (Option.map fun x => .sh x.d)
theorem RepO.sharE {G : Gc} {H Hs : Hp} (le : Le Hs H) : ∀ {η : Env} {σ : L2.St} {as : List Addr}, RepO G H Hs η σ as → RepO G H H (sharE η) σ []
  | [], _, _, h => ⟨h.1, rfl⟩
  | none :: η, σ, as, h => by
    obtain ⟨t, σ', e, r⟩ := h
    exact ⟨t, σ', e, RepO.sharE le r⟩
  | some x :: η, σ, as, h => by
    obtain ⟨v, σ', a1, a2, e, rfl, p, r⟩ := h
    exact ⟨v, σ', [], [], e, rfl, RepV.sh_iff.mpr ⟨rfl, p.frozen (fun a _ o e => e) le⟩, RepO.sharE le r⟩
theorem Rep.sharE {G : Gc} {H Hs : Hp} {η : Env} {σ : L2.St} {as : List Addr} (h : Rep G η σ as H Hs) : Rep G (Wp.sharE η) σ [] H H :=
  ⟨Le.refl, h.env.sharE h.le, List.nodup_nil, (fun _ z => nomatch z), fun _ _ z => z⟩
def immD : D → Bool
  | .non => true
  | .bl _ => true
  | .int _ => true
  | .str _ => true
  | _ => false
theorem immD_any {G : Gc} {H H' : Hp} {d : D} {v : V} (i : immD d = true) (h : RepD G H d v) : RepD G H' d v := by
  cases d <;> first | (simp only [immD, Bool.false_eq_true] at i; done) | simpa only [RepD] using h
def fPure (f : FO) : FO := fun η => match f (sharE η) with
  | some (.ok (.pend (.sh d)) _) => if immD d = true then okR (.pend (.sh d)) η else none
  | _ => none
def fPureT (f : FT) : FT := fun η => match f (sharE η) with
  | some (.ok b _) => okR b η
  | _ => none
section
variable {M : Md} {S : Sc} {k : Nat} {W : WX} {X : Cx} {kp : List Nat} {a b e : Expr} {es : List Expr} {fa fb : FO} {pos p : Pos} {x : Str}
def fAppT (fo fe : FO) : FO := fun η => bindR (fo η) fun o η1 => match o with
  | .pend (.ol us) => bindR (fe η1) fun q η2 => (match esc1 q η2 with
    | some (_, η3) => if us.length < sizeLine then okR (.pend (.sh .non)) η3 else none
    | none => none)
  | _ => none
end
end Wp
end
section
set_option Elab.async false
set_option linter.all false
set_option maxRecDepth 100000
set_option maxHeartbeats 1000000
namespace Wp
open PySem PySem.Spec PyProof.Rows L2
def fEqN (mt : Nat → Option Fi) (fa fb : FO) : FO := fun η => bindR (fa η) fun o η1 => bindR (fb η1) fun o2 η2 => match o.cls η2, o2 with
  | some (c, _), .pend (.sh .non) => (match mt c with
    | some i => (match callR i.n i.ms i.F (i.dv 2) [o, .pend (.sh .non)] η2 with
      | some (.ok (.pend (.sh (.bl b))) η3) => okR (.pend (.sh (.bl b))) η3
      | _ => none)
    | none => none)
  | _, _ => none
def tupD : Opv → Option (List D)
  | .pend x => (match x.d with
    | .tup xs => some xs
    | _ => none)
  | _ => none
def fEqTu (mt : Nat → Option Fi) (fa fb : FO) : FO := fun η => bindR (fa η) fun o η1 => bindR (fb η1) fun o2 η2 => match tupD o, o2.cls η2 with
  | some xs, some (c, _) => (match mt c with
    | some i => (match callR i.n i.ms i.F (i.dv 2) [o2, .pend (.sh (.tup xs))] η2 with
      | some (.ok (.pend (.sh (.bl b))) η3) => okR (.pend (.sh (.bl b))) η3
      | _ => none)
    | none => none)
  | _, _ => none
/-- a shared value put in behind the top -/
theorem Rep.second {G : Gc} {η : Env} {σ : L2.St} {as : List Addr} {H Hs : Hp} {x : Option Val} {v : V} {d : D} {u : V} (h : Rep G (x :: η) (some v :: σ) as H Hs) (r : RepD G Hs d u) : Rep G (x :: some (.sh d) :: η) (some v :: some u :: σ) as H Hs := by
  refine ⟨h.le, ?_, h.nd, h.off, h.tp⟩
  cases x with
  | none =>
    obtain ⟨s, σ', e, q⟩ := h.env
    obtain ⟨rfl, rfl⟩ := List.cons.inj e
    exact ⟨_, _, rfl, u, _, [], as, rfl, rfl, RepV.sh_iff.mpr ⟨rfl, r⟩, q⟩
  | some x =>
    obtain ⟨w, σ', a1, a2, e, rfl, p, q⟩ := h.env
    obtain ⟨e1, rfl⟩ := List.cons.inj e
    obtain rfl := Option.some.inj e1
    exact ⟨_, _, a1, a2, rfl, rfl, p, u, _, [], a2, rfl, rfl, RepV.sh_iff.mpr ⟨rfl, r⟩, q⟩
section
variable {M : Md} {S : Sc} {k : Nat} {W : WX} {X : Cx} {kp : List Nat} {a b : Expr} {fa fb : FO} {pos : Pos}
end
end Wp
end
section
set_option Elab.async false
set_option linter.all false
set_option maxRecDepth 100000
set_option maxHeartbeats 1000000
namespace Wp
open PySem PySem.Spec PyProof.Rows L2
section
variable {M : Md} {S : Sc} {k : Nat} {W : WX} {X : Cx} {kp : List Nat} {pos : Pos}
/-- return x: the local's value goes out as it is -/
def fRetM (f : FO) : FS := fun η => bindR (f η) fun o η1 => match arg1 o η1 with
  | some (x, η2) => okR (.ret x) η2
  | none => none
end
section
variable {η η0 η1 η2 η3 η4 η5 θ : Env} {o p q : Opv} {os : List Opv} {fa fb fc f fo fe : FO} {ft : FT} {g : FL} {x y z : Val} {d e : D} {ds : List D} {i j l : Nat} {b : Bool} {F : FF} {ms : List Bool} {xs xs2 : List Val} {c n na : Nat} {fs gs : List Str}
theorem e_pure (h0 : Lf (sharE η = η1)) (h : f η1 = some (.ok (.pend z) η2)) (h1 : Lf (z = .sh d)) (hi : Lf (immD d = true)) : fPure f η = some (.ok (.pend (.sh d)) η) := by
  obtain ⟨rfl⟩ := h1
  unfold fPure
  rw [h0.h, h]
  simp only [hi.h, if_true, okR]
theorem e_pureT (h0 : Lf (sharE η = η1)) (h : ft η1 = some (.ok b η2)) : fPureT ft η = some (.ok b η) := by
  unfold fPureT
  rw [h0.h, h]
  rfl
theorem e_retM (h : f η = some (.ok o η1)) (h2 : Lf (arg1 o η1 = some (x, η2))) : fRetM f η = some (.ok (.ret x) η2) := by
  unfold fRetM
  rw [h, bindR_some]
  simp only [h2.h, okR]
theorem e_appT {us : List Val} (ho : fo η = some (.ok o η1)) (h0 : Lf (o = .pend (.ol us))) (h : fe η1 = some (.ok p η2)) (h2 : Lf (esc1 p η2 = some (z, η3))) (hz : Sz (us.length < sizeLine)) : fAppT fo fe η = some (.ok (.pend (.sh .non)) η3) := by
  obtain ⟨rfl⟩ := h0
  unfold fAppT
  rw [ho, bindR_some]
  simp only [h, bindR_some, h2.h, if_pos hz.h, okR]
theorem e_callD {q : Fi} {df dv : List D} (hi : Lf (q = ⟨F, n, ms, df⟩)) (hg : g η = some (.ok os η1)) (ha : Lf (argAll ms os η1 = some (xs, η2))) (hn : Lf (os.length = na)) (hd : Lf ((⟨F, n, ms, df⟩ : Fi).dv na = dv)) (hn2 : Lf (os.length + dv.length = n)) (hx : Lf (xs ++ dv.map .sh = xs2))
    (hF : F xs2 = some (.ok x θ)) (hb : Lf (backAll os θ η2 = η3)) : fCallN q na g η = some (.ok (.pend x) η3) := by
  obtain ⟨rfl⟩ := hi
  unfold fCallN
  rw [hg, bindR_some, if_pos hn.h]
  unfold callR
  rw [ha.h]
  simp only [hd.h, hn2.h, if_true, hx.h, hF, hb.h]
theorem e_prop {pt : Nat → Option Fi} {m : Str} (ho : fa η = some (.ok o η1)) (hc : Lf (o.cls η1 = some (c, fs))) (hm : Lf ((decide (m ∈ fs)) = false)) (hi : Lf (pt c = some ⟨F, 1, ms, []⟩))
    (ha : Lf (argAll ms [o] η1 = some (xs, η2))) (hF : F xs = some (.ok x θ)) (hb : Lf (backAll [o] θ η2 = η3)) : fAttr (fun _ => false) pt m fa η = some (.ok (.pend x) η3) := by
  unfold fAttr
  rw [ho, bindR_some]
  simp only [hc.h]
  rw [if_neg (of_decide_eq_false hm.h)]
  simp only [hi.h]
  simp only [show (Fi.dv ⟨F, 1, ms, []⟩ 1) = [] from by simp [Fi.dv]]
  rw [callR_e (n := 1) ha rfl hF hb.h]
  rfl
theorem callR_b (ha : argAll ms [o, p] η = some (xs, η3)) (hF : F xs = some (.ok (.sh (.bl b)) θ)) : callR 2 ms F [] [o, p] η = some (.ok (.pend (.sh (.bl b))) (backAll [o, p] θ η3)) := by
  unfold callR
  rw [ha]
  simp only [List.length_nil, List.length_cons, Nat.add_zero, Nat.zero_add, Nat.reduceAdd, if_true, List.map_nil, List.append_nil, hF]
theorem dv2_nil : (Fi.dv ⟨F, 2, ms, []⟩ 2) = [] := by simp [Fi.dv]
theorem e_neO {mt : Nat → Option Fi} (h1 : fa η = some (.ok o η1)) (h2 : fb η1 = some (.ok p η2)) (hc : Lf (o.cls η2 = some (c, fs))) (hc2 : Lf (p.cls η2 = some (c, gs)))
    (hi : Lf (mt c = some ⟨F, 2, ms, []⟩)) (ha : Lf (argAll ms [o, p] η2 = some (xs, η3))) (hF : F xs = some (.ok (.sh (.bl b)) θ)) (hb : Lf (backAll [o, p] θ η3 = η4)) : fNeO mt fa fb η = some (.ok (.pend (.sh (.bl (!b)))) η4) := by
  unfold fNeO
  rw [h1, bindR_some, h2, bindR_some]
  simp only [hc.h, hc2.h, if_true, hi.h, dv2_nil]
  rw [callR_b ha.h hF, hb.h]
  rfl
theorem e_eqO {mt : Nat → Option Fi} (h1 : fa η = some (.ok o η1)) (h2 : fb η1 = some (.ok p η2)) (hc : Lf (o.cls η2 = some (c, fs))) (hc2 : Lf (p.cls η2 = some (c, gs)))
    (hi : Lf (mt c = some ⟨F, 2, ms, []⟩)) (ha : Lf (argAll ms [o, p] η2 = some (xs, η3))) (hF : F xs = some (.ok (.sh (.bl b)) θ)) (hb : Lf (backAll [o, p] θ η3 = η4)) : fEqO mt fa fb η = some (.ok (.pend (.sh (.bl b))) η4) := by
  unfold fEqO
  rw [h1, bindR_some, h2, bindR_some]
  simp only [hc.h, hc2.h, if_true, hi.h, dv2_nil]
  rw [callR_b ha.h hF, hb.h]
  rfl
theorem e_eqN {mt : Nat → Option Fi} (h1 : fa η = some (.ok o η1)) (h2 : fb η1 = some (.ok (.pend (.sh .non)) η2)) (hc : Lf (o.cls η2 = some (c, fs))) (hi : Lf (mt c = some ⟨F, 2, ms, []⟩))
    (ha : Lf (argAll ms [o, .pend (.sh .non)] η2 = some (xs, η3))) (hF : F xs = some (.ok (.sh (.bl b)) θ)) (hb : Lf (backAll [o, .pend (.sh .non)] θ η3 = η4)) : fEqN mt fa fb η = some (.ok (.pend (.sh (.bl b))) η4) := by
  unfold fEqN
  rw [h1, bindR_some, h2, bindR_some]
  simp only [hc.h, hi.h, dv2_nil]
  rw [callR_b ha.h hF, hb.h]
  rfl
theorem e_eqTu {mt : Nat → Option Fi} {xd : List D} (h1 : fa η = some (.ok o η1)) (h2 : fb η1 = some (.ok p η2)) (ht : Lf (tupD o = some xd)) (hc : Lf (p.cls η2 = some (c, fs))) (hi : Lf (mt c = some ⟨F, 2, ms, []⟩))
    (ha : Lf (argAll ms [p, .pend (.sh (.tup xd))] η2 = some (xs, η3))) (hF : F xs = some (.ok (.sh (.bl b)) θ)) (hb : Lf (backAll [p, .pend (.sh (.tup xd))] θ η3 = η4)) : fEqTu mt fa fb η = some (.ok (.pend (.sh (.bl b))) η4) := by
  unfold fEqTu
  rw [h1, bindR_some, h2, bindR_some]
  simp only [ht.h, hc.h, hi.h, dv2_nil]
  rw [callR_b ha.h hF, hb.h]
  rfl
theorem e_par3 (h : g η = some (.ok os η1)) (h2 : Lf (escAll os η1 = some ([x, y, z], η2))) (h3 : Lf (decide (i < η2.length ∧ j < η2.length ∧ l < η2.length) = true)) (h4 : Lf (((η2.set i (some x)).set j (some y)).set l (some z) = η3)) : fPar3 i j l g η = some (.ok .next η3) := by
  unfold fPar3
  rw [h, bindR_some]
  simp only [h2.h]
  rw [if_pos (of_decide_eq_true h3.h), h4.h]
  rfl
theorem e_chain {c1 c2 : Int → Int → Bool} {i j l : Int} (h1 : fa η = some (.ok o η1)) (h2 : fb η1 = some (.ok p η2)) (h3 : Lf (prepAll [o, p] η2 = some ([.int i, .int j], η3))) (hc : c1 i j = true) (h4 : fc η3 = some (.ok q η4)) (h5 : Lf (prepAll [q] η4 = some ([.int l], η5))) : fChain fa fb fc c1 c2 η = some (.ok (.pend (.sh (.bl (c2 j l)))) η5) := by
  unfold fChain
  rw [h1, bindR_some, h2, bindR_some]
  simp only [h3.h, hc, if_true, h4, bindR_some, h5.h, okR]
end
end Wp
end
section
set_option Elab.async false
set_option linter.all false
set_option maxRecDepth 100000
namespace Wp
open PySem PySem.Spec PyProof.Rows L2 PySem.W

theorem map_three {S A B C : Type} {x : Option S} {f : S → A} {g : S → B} {h : S → C} {a : A} {b : B} {c : C} (e1 : x.map f = some a) (e2 : x.map g = some b) (e3 : x.map h = some c) : x.map (fun s => (f s, g s, h s)) = some (a, b, c) := by
  cases x with
  | none => cases e1
  | some s => cases e1; cases e2; cases e3; rfl
theorem map_two {S A B : Type} {x : Option S} {f : S → A} {g : S → B} {a : A} {b : B} (e1 : x.map f = some a) (e2 : x.map g = some b) : x.map (fun s => (f s, g s)) = some (a, b) := by
  cases x with
  | none => cases e1
  | some s => cases e1; cases e2; rfl
def RunL (r : OpenRow) (M : Nat) (w : World) : Prop := ∀ os : OsState, (HandSHeadRun.endF (HandSHeadRun.stepQ (HandSHeadRun.denQ HandSHeadRun.tabQ) r.prog w) M r.prog w os).map (fun s => HandSHeadRun.looksF r.prog (boot_heap w.params) s.abs) = some true
def RunS (r : OpenRow) (q : Program) (M : Nat) (loose : List PySem.Str) (w : World) : Prop := ∀ os : OsState, (HandSHeadRun.endF (HandSHeadRun.stepQ (HandSHeadRun.denQ HandSHeadRun.tabQ) r.prog w) M r.prog w os).map (fun s => HandSHeadRun.seenQ q loose (importedModules r.prog.main.body) (fun s => xlAt q [] s && recOk r.toRowW.records s) s.abs) = some (openGood q loose)
def RunO (r : OpenRow) (H : Hook) (ob : SharedT → H.α) (M : Nat) (w : World) : Prop := ∀ os : OsState, (HandSHeadRun.endF (HandSHeadRun.stepQ (HandSHeadRun.denQ HandSHeadRun.tabQ) r.prog w) M r.prog w os).map ob = some (H.val w)
theorem run_of {r : OpenRow} {q : Program} {H : Hook} {ob : SharedT → H.α} {M : Nat} {loose : List PySem.Str} {w : World} (e1 : RunL r M w) (e2 : RunS r q M loose w) (e3 : RunO r H ob M w) : HandSHeadRun.RunEq r q H ob M loose w :=
  fun os => map_three (e1 os) (e2 os) (e3 os)
/-- the defs, as they should stand -/
def mpV : List He.DefD → List He.FnW
  | [] => []
  | d :: l => d.val :: mpV l
theorem mpV_eq : ∀ l : List He.DefD, mpV l = l.map He.DefD.val
  | [] => rfl
  | d :: l => congrArg (d.val :: ·) (mpV_eq l)
abbrev RunV (r : OpenRow) (M : Nat) (w : World) {α : Type} (f : (Addr → Option Obj) → α) (v : α) : Prop := ∀ os : OsState, (HandSHeadRun.endF (HandSHeadRun.stepQ (HandSHeadRun.denQ HandSHeadRun.tabQ) r.prog w) M r.prog w os).map (fun s => f (HandSHeadRun.getT s)) = some v
/-- the tests, the extra test, the defs -/
def RunA (r : OpenRow) (n : Nat) (fa : List He.Fa) (fn : List He.DefD) (M : Nat) (w : World) : Prop := RunV r M w (fun g => (fa.all fun f => f.ok (He.frG g (asQ g n))) && fn.all fun d => d.ok (He.frG g (asQ g n))) true
def RunX (r : OpenRow) (n : Nat) (ex : PySem.W.Frag → Bool) (M : Nat) (w : World) : Prop := RunV r M w (fun g => ex (He.frG g (asQ g n))) true
def RunF (r : OpenRow) (n : Nat) (fn : List He.DefD) (M : Nat) (w : World) : Prop := RunV r M w (fun g => fn.map fun d => He.fnW (He.frG g (asQ g n)) d.at_) (mpV fn)
theorem runO_K {r : OpenRow} {n : Nat} {fa : List He.Fa} {fn : List He.DefD} {ex : PySem.W.Frag → Bool} {M : Nat} {w : World} (e1 : RunA r n fa fn M w) (e2 : RunF r n fn M w) (e3 : RunX r n ex M w) : RunO r (hookK n fa fn ex) (fun s => obsK n fa fn ex (HandSHeadRun.getT s)) M w := fun os => by
  have h := map_two (map_two (e1 os) (e2 os)) (e3 os)
  rw [mpV_eq] at h
  exact h
end Wp
end
section
set_option Elab.async false
set_option linter.all false
set_option maxRecDepth 100000
set_option maxHeartbeats 2000000
namespace Wp
open PySem PySem.Spec PyProof.Rows L2
open PySem.Froz (SD sObj TxOk addTx tailTx)
section
variable {P : Program} {w : World} {A : Around} {E : Value → Shared → Prop} {s : Shared} {a : Addr}
/-- the texts l, each once, stand at a in a set whose table rises -/
structure SetS (P : Program) (w : World) (h : Heap) (a : Addr) (l : List Str) : Prop where
  ex : ∃ D : SD, h.get? a = some (sObj "set" D) ∧ TxOk P w D l ∧ Ris D.2.2.place.toList ∧ (w.params.followText "set-order" = true ∨ D.2.2.led = true)
  nd : l.Nodup
theorem SetS.keep {h h' : Heap} {l : List Str} (R : SetS P w h a l) (k : ∀ o, h.get? a = some o → h'.get? a = some o) : SetS P w h' a l := by
  obtain ⟨⟨D, d1, d2⟩, n⟩ := R
  exact ⟨⟨D, k _ d1, d2⟩, n⟩
theorem SetS.text {k : Str} {v : Value} (h : (strKind P w).is k v = true) : ∃ t, v = .str k t := by
  have h : Value.isStrOf k v = true := h
  unfold Value.isStrOf at h
  split at h
  · exact ⟨_, by rw [beq_iff_eq.mp h]⟩
  · cases h
end
end Wp
end
section
set_option Elab.async false
set_option linter.all false
set_option maxRecDepth 100000
set_option maxHeartbeats 1000000
namespace Wp
open PySem PySem.Spec PyProof.Rows L2
/-- texts of data -/
def strsOf : List D → Option (List Str)
  | [] => some []
  | .str x :: ds => (strsOf ds).map (x :: ·)
  | _ => none
theorem strsOf_inv : ∀ {ds : List D} {ss : List Str}, strsOf ds = some ss → ds = ss.map .str
  | [], ss, h => by
    obtain rfl := Option.some.inj h
    rfl
  | .str x :: ds, ss, h => by
    simp only [strsOf, Option.map_eq_some_iff] at h
    obtain ⟨r, e, rfl⟩ := h
    rw [strsOf_inv e]
    rfl
  | .non :: _, _, h => by cases h
  | .bl _ :: _, _, h => by cases h
  | .int _ :: _, _, h => by cases h
  | .tup _ :: _, _, h => by cases h
  | .lst _ :: _, _, h => by cases h
  | .dict _ _ :: _, _, h => by cases h
  | .dt _ _ :: _, _, h => by cases h
  | .fn _ :: _, _, h => by cases h
  | .rng _ _ :: _, _, h => by cases h
  | .obj _ _ _ :: _, _, h => by cases h
theorem RepDs.strs {G : Gc} {H : Hp} : ∀ {ss : List Str} {vs : List V}, RepDs G H (ss.map .str) vs → vs = ss.map V.str
  | [], vs, h => by rwa [List.map_nil, RepDs.nil_iff] at h
  | s :: ss, vs, h => by
    obtain ⟨v, ws, rfl, p, t⟩ := RepDs.uncons h
    rw [RepDs.strs t, show v = .str s by simpa only [RepD] using p]
    rfl
section
variable {M : Md} {S : Sc} {k : Nat} {W : WX} {X : Cx} {a b c e : Expr} {es : List Expr} {fa fb fc : FO} {g : FL} {pos p : Pos} {x : Str}
end
end Wp
end
section
set_option Elab.async false
set_option linter.all false
set_option maxRecDepth 100000
set_option maxHeartbeats 1000000
namespace Wp
open PySem PySem.Spec PyProof.Rows L2
/-- a sign in a text; a text in a tuple of texts; data in a list of data; a key in a dict -/
def inC : D → D → Option Bool
  | .str x, .str y => (match x.cps.toList with
    | [c] => some (decide (c ∈ y.cps.toList))
    | _ => none)
  | .str x, .tup ys => (strsOf ys).map fun ss => decide (x ∈ ss)
  | d, .lst ys => (toPy d).bind fun p => (toPys ys).bind fun qs => if SeqAt.shaped p && SeqAt.shaped (.list qs) then some (qs.any fun z => PyData.eqv z p) else none
  | _, _ => none
def inK : D → D → Option Bool
  | d, .dict ks vs => (keyOf d).map fun k => ks.any fun k' => decide (k' = k)
  | d, .dt ks vs => (keyTOf d).map fun k => ks.any fun k' => decide (k' = k)
  | _, _ => none
def inA (d e : D) : Option Bool := match e with
  | .dict _ _ => inK d e
  | .dt _ _ => inK d e
  | _ => inC d e
def gIn (neg : Bool) (d e : D) : Option Val := (inA d e).map fun b => .sh (.bl (if neg then !b else b))
def gIn1 (neg : Bool) (d e : D) : Option Val := (inC d e).map fun b => .sh (.bl (if neg then !b else b))
def gIn2 (neg : Bool) (d e : D) : Option Val := (inK d e).map fun b => .sh (.bl (if neg then !b else b))
def rInX (K : PySem.W.Frag) (neg : Bool) : R2 := fun x y H Q => (∃ (c : Nat) (z : Str), x = .str ⟨#[c]⟩ ∧ y = .str z ∧ Q (.bl (if neg then !decide (c ∈ z.cps.toList) else decide (c ∈ z.cps.toList))) H) ∨ rIn K neg x y H Q ∨
  ∃ d ds, L2.Dp K H x d ∧ L2.Dp K H y (.list ds) ∧ SeqAt.shaped d = true ∧ SeqAt.shaped (.list ds) = true ∧ Q (.bl (if neg then !ds.any fun z => PyData.eqv z d else ds.any fun z => PyData.eqv z d)) H
theorem op_inX {X : Cx} (hu : X.A.units + 65 < cLine) : OpR X (compareOp .In) (rInX X.K false) := by
  intro pins s σ H x y v u Q I rx ry h
  rcases h with ⟨c, z, e1, e2, q⟩ | h | ⟨d, ds, h1, h2, h3, h4, q⟩
  · exact op_in_sign pins s σ H x y v u Q I rx ry ⟨c, z, e1, e2, q⟩
  · exact op_in_seq pins s σ H x y v u Q I rx ry h
  · exact op_inD hu pins s σ H x y v u Q I rx ry ⟨d, ds, h1, h2, h3, h4, q⟩
theorem op_notInX {X : Cx} (hu : X.A.units + 65 < cLine) : OpR X (compareOp .NotIn) (rInX X.K true) := by
  intro pins s σ H x y v u Q I rx ry h
  rcases h with ⟨c, z, e1, e2, q⟩ | h | ⟨d, ds, h1, h2, h3, h4, q⟩
  · exact op_notIn_sign pins s σ H x y v u Q I rx ry ⟨c, z, e1, e2, q⟩
  · exact op_notIn_seq pins s σ H x y v u Q I rx ry h
  · exact op_notInD hu pins s σ H x y v u Q I rx ry ⟨d, ds, h1, h2, h3, h4, q⟩
theorem inV_strs (x : Str) (ss : List Str) : inV (.str x) (ss.map V.str) = decide (x ∈ ss) := by
  unfold inV
  induction ss with
  | nil => rfl
  | cons s ss ih =>
    rw [List.map_cons, List.any_cons, ih]
    show ((s == x) || _) = _
    by_cases e : s = x
    · subst e; simp
    · have e' : x ≠ s := fun z => e z.symm
      have : (s == x) = false := beq_eq_false_iff_ne.mpr e
      rw [this]
      simp [e']
theorem flat_strs (ss : List Str) : (ss.map V.str).all flatV = true := by
  rw [List.all_map, List.all_eq_true]
  intro x _
  rfl
theorem p_in1 {G : Gc} (neg : Bool) : P2 G (rInX G.K neg) (gIn1 neg) := fun d e x hx v u H Hs Q s t1 t2 q => by
  unfold gIn1 at hx
  simp only [Option.map_eq_some_iff] at hx
  obtain ⟨b, hb, rfl⟩ := hx
  unfold inC at hb
  split at hb
  · rename_i x y
    split at hb
    · rename_i c hc
      obtain rfl := Option.some.inj hb
      refine .inl ⟨c, y, ?_, t2, q.bl⟩
      rw [show v = .str x from t1]
      obtain ⟨x⟩ := x
      rw [show x = #[c] from Array.toList_inj.mp hc]
    · cases hb
  · rename_i x ys
    simp only [Option.map_eq_some_iff] at hb
    obtain ⟨ss, h1, rfl⟩ := hb
    rw [strsOf_inv h1] at t2
    obtain ⟨a, vs, rfl, q1, r1⟩ := t2
    rw [RepDs.strs r1] at q1
    refine .inr (.inl ⟨a, _, rfl, .inr (SqT.of q1), by rw [show v = .str x from t1]; rfl, flat_strs ss, ?_⟩)
    rw [show v = .str x from t1, inV_strs]
    exact q.bl
  · rename_i d ys _
    simp only [Option.bind_eq_some_iff, Option.ite_none_right_eq_some, Bool.and_eq_true, Option.some.injEq] at hb
    obtain ⟨p, h1, qs, h2, ⟨s1, s2⟩, rfl⟩ := hb
    exact .inr (.inr ⟨p, qs, t1.dp s h1, t2.dp s (by simp only [toPy, h2, Option.map_some]), s1, s2, q.bl⟩)
  · cases hb
theorem dget_mem {κ : Type} [DecidableEq κ] {ks : List κ} {vs : List V} (hl : ks.length = vs.length) (k : κ) : (valV (ks.zip vs) k).isSome = ks.any fun k' => decide (k' = k) := by
  induction ks generalizing vs with
  | nil => rfl
  | cons k' ks ih =>
    cases vs with
    | nil => simp at hl
    | cons v vs =>
      rw [List.zip_cons_cons]
      rw [List.any_cons]
      by_cases e : k' = k
      · rw [valV_pos (p := (k', v)) e, decide_eq_true e]
        rfl
      · rw [valV_neg (p := (k', v)) e, ih (by simpa using hl), decide_eq_false e, Bool.false_or]
def rInK (neg : Bool) : R2 := fun x y H Q => ∃ a o, y = .ref a ∧ DGet H a x o ∧ Q (.bl (if neg then !o.isSome else o.isSome)) H
theorem p_in2 {G : Gc} (neg : Bool) : P2 G (rInK neg) (gIn2 neg) := fun d e x hx v u H Hs Q s t1 t2 q => by
  unfold gIn2 at hx
  simp only [Option.map_eq_some_iff] at hx
  obtain ⟨b, hb, rfl⟩ := hx
  unfold inK at hb
  split at hb
  · rename_i d ks vs
    simp only [Option.map_eq_some_iff] at hb
    obtain ⟨k, h1, rfl⟩ := hb
    obtain ⟨a, ws, rfl, q1, l, r1⟩ := t2
    refine ⟨a, _, rfl, .inl ⟨_, k, q1, keyOf_ok t1 h1, rfl⟩, ?_⟩
    rw [dget_mem l]
    exact q.bl
  · rename_i d ks vs
    simp only [Option.map_eq_some_iff] at hb
    obtain ⟨k, h1, rfl⟩ := hb
    obtain ⟨a, ws, rfl, q1, l, r1⟩ := t2
    obtain ⟨b, rfl, hb⟩ := keyTOf_ok t1 h1
    refine ⟨a, _, rfl, .inr ⟨_, k, b, q1, rfl, hb, rfl⟩, ?_⟩
    rw [dget_mem l]
    exact q.bl
  · cases hb
section
variable {M : Md} {S : Sc} {k : Nat} {W : WX} {X : Cx} {a b e : Expr} {fa fb : FO} {pos : Pos}
theorem gIn_or (neg : Bool) (d e : D) (x : Val) (h : gIn neg d e = some x) : gIn1 neg d e = some x ∨ gIn2 neg d e = some x := by
  unfold gIn inA at h
  cases e <;> first | exact .inl h | exact .inr h
theorem ok_in (ok : Cok M S k W X) (hm : behindInMarks .In b = false) (ha : OkO M X W a fa) (hb : OkO M X W b fb) : OkO M X W (.Compare a [.In] [b] pos) (f2 fa fb (p2 (gIn false))) := by
  have h1 : OkO M X W (.Compare a [.In] [b] pos) (f2 fa fb (p2 (gIn1 false))) := ok_cmp (r := rInX M.K false) (by rw [← ok.K]; exact op_inX ok.un) hm (p_in1 false) ha hb
  have h2 : OkO M X W (.Compare a [.In] [b] pos) (f2 fa fb (p2 (gIn2 false))) := ok2 (r := rInK false) ha hb (prim2 (p_in2 false)) fun _ _ z1 z2 => pe_cmp (pc_din (by have := ok.un; omega) z1 z2) hm
  exact h1.or h2 (f2_or (gIn_or false))
/-- the test, too -/
theorem okT_or {f f' fq : FT} (h1 : OkT M X W e f) (h2 : OkT M X W e f') (h : ∀ η r, fq η = some r → f η = some r ∨ f' η = some r) : OkT M X W e fq := by
  obtain ⟨t1, p1, q1⟩ := h1
  obtain ⟨t2, p2, q2⟩ := h2
  refine ⟨fun σ H Q => t1 σ H Q ∨ t2 σ H Q, ⟨fun pins s σ H Q I hw => hw.elim (p1.run pins s σ H Q I) (p2.run pins s σ H Q I)⟩, fun η σ as H Hs r Q hR hf hp => ?_⟩
  rcases h η r hf with z | z
  · exact .inl (q1 η σ as H Hs r Q hR z hp)
  · exact .inr (q2 η σ as H Hs r Q hR z hp)
theorem fBl_or {g g1 g2 : D → D → Option Val} (h : ∀ d e x, g d e = some x → g1 d e = some x ∨ g2 d e = some x) (η : Env) (r : Res Bool) (hf : fBl (f2 fa fb (p2 g)) η = some r) : fBl (f2 fa fb (p2 g1)) η = some r ∨ fBl (f2 fa fb (p2 g2)) η = some r := by
  unfold fBl at hf ⊢
  rcases bindR_inv hf with ⟨o, η1, e1, e2⟩ | ⟨c, p, η1, e1, rfl⟩
  · rcases f2_or h η _ e1 with z | z <;> rw [z]
    · exact .inl e2
    · exact .inr e2
  · rcases f2_or h η _ e1 with z | z <;> rw [z]
    · exact .inl rfl
    · exact .inr rfl
theorem okT_in2 (ok : Cok M S k W X) (hm : behindInMarks .In b = false) (ha : OkO M X W a fa) (hb : OkO M X W b fb) : OkT M X W (.Compare a [.In] [b] pos) (fBl (f2 fa fb (p2 (gIn2 false)))) := by
  have hu : X.A.units + 1 < cLine := by have := ok.un; omega
  obtain ⟨t, ⟨h1, h2⟩, hh⟩ := ok2P (P := fun t => PE X (.Compare a [.In] [b] pos) t ∧ PT X (.Compare a [.In] [b] pos) (tTest t)) (W := W) (r := rInK false) ha hb (prim2 (p_in2 false)) fun _ _ h1 h2 => ⟨pe_cmp (pc_din hu h1 h2) hm, pt_cmp (pc_din hu h1 h2) hm⟩
  exact okT_of ⟨t, h1, h2, hh⟩
theorem okT_notIn2 (ok : Cok M S k W X) (hm : behindInMarks .NotIn b = false) (ha : OkO M X W a fa) (hb : OkO M X W b fb) : OkT M X W (.Compare a [.NotIn] [b] pos) (fBl (f2 fa fb (p2 (gIn2 true)))) := by
  have hu : X.A.units + 1 < cLine := by have := ok.un; omega
  obtain ⟨t, ⟨h1, h2⟩, hh⟩ := ok2P (P := fun t => PE X (.Compare a [.NotIn] [b] pos) t ∧ PT X (.Compare a [.NotIn] [b] pos) (tTest t)) (W := W) (r := rInK true) ha hb (prim2 (p_in2 true)) fun _ _ h1 h2 => ⟨pe_cmp (pc_dnotin hu h1 h2) hm, pt_cmp (pc_dnotin hu h1 h2) hm⟩
  exact okT_of ⟨t, h1, h2, hh⟩
theorem okT_in (ok : Cok M S k W X) (hm : behindInMarks .In b = false) (ha : OkO M X W a fa) (hb : OkO M X W b fb) : OkT M X W (.Compare a [.In] [b] pos) (fBl (f2 fa fb (p2 (gIn false)))) := by
  have h1 : OkT M X W (.Compare a [.In] [b] pos) (fBl (f2 fa fb (p2 (gIn1 false)))) := okT_cmp (r := rInX M.K false) (by rw [← ok.K]; exact op_inX ok.un) hm (p_in1 false) ha hb
  exact okT_or h1 (okT_in2 ok hm ha hb) (fBl_or (gIn_or false))
theorem okT_notIn (ok : Cok M S k W X) (hm : behindInMarks .NotIn b = false) (ha : OkO M X W a fa) (hb : OkO M X W b fb) : OkT M X W (.Compare a [.NotIn] [b] pos) (fBl (f2 fa fb (p2 (gIn true)))) := by
  have h1 : OkT M X W (.Compare a [.NotIn] [b] pos) (fBl (f2 fa fb (p2 (gIn1 true)))) := okT_cmp (r := rInX M.K true) (by rw [← ok.K]; exact op_notInX ok.un) hm (p_in1 true) ha hb
  exact okT_or h1 (okT_notIn2 ok hm ha hb) (fBl_or (gIn_or true))
end
end Wp
end
section
set_option Elab.async false
set_option linter.all false
set_option maxRecDepth 100000
set_option maxHeartbeats 1000000
namespace Wp
open PySem PySem.Spec PyProof.Rows L2
def sgnV (z : Str) : List Val := z.cps.toList.map fun c => .sh (.str ⟨#[c]⟩)
theorem sgnV_len (z : Str) : (sgnV z).length = z.cps.size := by unfold sgnV; rw [List.length_map, Array.length_toList]
theorem it_str {G : Gc} {z : Str} : ItOk G (Its z) (List.replicate z.cps.size none) (List.replicate z.cps.size none) (sgnV z) (fun _ _ _ => True) where
  lp := by rw [List.length_replicate, sgnV_len]
  lt := by rw [List.length_replicate, sgnV_len]
  stable := fun _ _ _ _ _ _ _ _ => trivial
  go := fun i as H Hs s c hi => by rw [sgnV_len] at hi; exact hi
  stop := fun as H Hs s c => by rw [sgnV_len]; exact Nat.le_refl _
  yld := fun i as H Hs x H2 y s _ _ ey hy => by
    obtain ⟨rfl, c, hc, rfl⟩ := hy
    have hi : i < z.cps.size := (Array.getElem?_eq_some_iff.mp hc).1
    have e : y = .sh (.str ⟨#[c]⟩) := by
      unfold sgnV at ey
      rw [List.getElem?_map, Array.getElem?_toList, hc] at ey
      exact (Option.some.inj ey).symm
    subst e
    exact .inr ⟨by rw [List.getElem?_replicate, if_pos hi], Sub.refl, [], RepV.sh_iff.mpr ⟨rfl, by simp only [RepD]⟩, List.nodup_nil, fun _ z => nomatch z⟩
def fStrI (f : FO) : FI := fun η => bindR (f η) fun o η1 => match esc1 o η1 with
  | some (.sh (.str z), η2) => okR (sgnV z) η2
  | _ => none
section
variable {M : Md} {S : Sc} {k : Nat} {W : WX} {X : Cx} {a b c e : Expr} {es : List Expr} {fa fb fc : FO} {g : FL} {pos p : Pos} {x : Str}
theorem okI_str {tg e : Expr} {f : FO} (he : OkO M X W e f) : OkI M X W tg e (fStrI f) := by
  obtain ⟨t, ht, hh⟩ := he
  refine ⟨_, pi_str ht, fun η σ as H Hs r R hR hf hp => ?_⟩
  rcases bindR_inv hf with ⟨o, η1, e1, e2⟩ | ⟨c, p, η1, e1, rfl⟩
  · refine hh η σ as H Hs _ _ hR e1 fun v as' H' Hs' r1 l1 x1 => ?_
    cases e3 : esc1 o η1 with
    | none =>
      rw [e3] at e2
      cases e2
    | some q =>
      obtain ⟨y, η2⟩ := q
      rw [e3] at e2
      rcases y with d | _ | _ | _ | _ | _ <;> first | (cases e2; done) | skip
      cases d <;> first | (cases e2; done) | skip
      rename_i z
      obtain rfl : r = .ok (sgnV z) η2 := (Option.some.inj e2).symm
      obtain ⟨as2, Hs2, r2, x2⟩ := esc1_ok (π := []) (τ := []) r1 rfl l1 e3
      obtain ⟨w, σ', a1, a2, q1, _, rv, _⟩ := r2.env
      obtain ⟨q2, rfl⟩ := List.cons.inj q1
      obtain rfl := Option.some.inj q2
      obtain ⟨_, rd⟩ := RepV.sh_iff.mp rv
      obtain ⟨as3, r3, m3⟩ := Rep.pop r2
      exact ⟨z, by simpa only [RepD] using rd, hp _ _ _ _ as3 H' Hs2 it_str trivial (r3.nones _) ((x1.trans x2).less m3)⟩
  · exact hh η σ as H Hs _ _ hR e1 hp
def keyD : Key → D
  | .inl i => .int i
  | .inr x => .str x
def keysV (ks : List Key) : List Val := ks.map fun k => .sh (keyD k)
/-- a tuple key as data -/
def keyTD (k : List Key) : D := .tup (k.map keyD)
def keysVT (ks : List (List Key)) : List Val := ks.map fun k => .sh (keyTD k)
def fKeys (i : Nat) : FI := fun η => match η[i]? with
  | some (some (.sh (.dict ks _))) => okR (keysV ks) η
  | some (some (.sh (.dt ks _))) => okR (keysVT ks) η
  | _ => none
theorem IsDO.notup {u : HO} (h : IsDO u) : ∀ vs, u ≠ .tup vs := fun vs e => IsDO.tup (e ▸ h)
def D.lockD : D → Bool
  | .dict _ _ => true
  | .dt _ _ => true
  | _ => false
theorem RepD.lockD {G : Gc} {H : Hp} {dd : D} {v : V} (h : RepD G H dd v) (hd : dd.lockD = true) : ∃ d u, v = .ref d ∧ Rd H d u ∧ IsDO u := by
  cases dd <;> first | (simp [D.lockD] at hd; done) | skip
  · simp only [RepD] at h
    obtain ⟨a, vs, rfl, q, _⟩ := h
    exact ⟨a, _, rfl, q, .k⟩
  · simp only [RepD] at h
    obtain ⟨a, vs, rfl, q, _⟩ := h
    exact ⟨a, _, rfl, q, .t⟩
/-- [.. for k in d ..] of a dict d: d is shared, locked meanwhile -/
def fLcK (n : Nat) (vs : List Nat) (i : Nat) (g : FG) (ft : FT) (fe : FO) : FO := fun η => match η[i]? with
  | some (some y) => if y.d.lockD = true then (match fLc n vs (fKeys i) g ft fe (η.set i (some (.sh y.d))) with
      | some (.ok o η') => some (.ok o η')
      | _ => none) else none
  | _ => none
where keyTs : List Key → Option (List Str)
  | [] => some []
  | .inr x :: ks => (keyTs ks).map (x :: ·)
  | _ => none
end
end Wp
end
section
set_option Elab.async false
set_option linter.all false
set_option maxRecDepth 100000
set_option maxHeartbeats 1000000
namespace Wp
open PySem PySem.Spec PyProof.Rows L2
section
open PySem.SeqAt MeetsSeq MeetsSeq2 MeetsSeq3 SeqRoads2
open AutoSeq1 (wpAny_loadPart')
variable {prog : Program} {w : World} {A : Around} {R : Result → Shared → Prop} {E : Value → Shared → Prop} {s : Shared}
end
def ndK (ks : List Key) : Bool := decide (ks.Nodup)
section
variable {M : Md} {S : Sc} {k : Nat} {W : WX} {X : Cx} {a b c e : Expr} {es : List Expr} {fa fb fc : FO} {g : FL} {pos p : Pos} {x : Str}
def pairD : List D → Option (List Key × List D)
  | [] => some ([], [])
  | .tup [k, d] :: xs => (keyOf k).bind fun k => (pairD xs).map fun r => (k :: r.1, d :: r.2)
  | _ => none
def gDict : D → Option Val
  | .lst xs => (pairD xs).bind fun r => if ndK r.1 = true then some (.od r.1 (r.2.map .sh)) else none
  | .dict ks ds => some (.od ks (ds.map .sh))
  | _ => none
theorem mergeK_new : ∀ {more kvs : List (Key × V)}, (more.map (·.1)).Nodup → (∀ e ∈ more, valV kvs e.1 = none) → mergeK kvs more = kvs ++ more
  | [], kvs, _, _ => by simp [mergeK]
  | m :: more, kvs, nd, h => by
    rw [List.map_cons, List.nodup_cons] at nd
    have e1 : mergeK kvs (m :: more) = mergeK (putK kvs m.1 m.2) more := rfl
    rw [e1, putK_new _ (h m (.head _)), mergeK_new nd.2 (fun e he => ?_), List.append_assoc]
    · rfl
    · rw [valV_snoc _ _ _ _ (h m (.head _)), if_neg (fun z => nd.1 (by rw [← z]; exact List.mem_map.mpr ⟨e, he, rfl⟩))]
      exact h e (.tail _ he)
theorem FreshQ.dct {G : Gc} {H Hs : Hp} {Q : VK} {ks : List Key} {ds : List D} {vs : List V} (q : FreshQ G H Hs Q (.od ks (ds.map .sh))) (l : ks.length = vs.length) (h : RepDs G Hs ds vs) (p : Addr) (np : H p = none) : Q (.ref p) (upd H p (.dK (ks.zip vs))) := by
  refine q.2 (.ref p) [p] _ (fun b o e => ?_) ?_ (by simp) (by simpa using np)
  · rw [upd_ne (ne_of_none e np)]
    exact e
  · rw [addT_upd (o := .dK (ks.zip vs)) (fun _ z => nomatch z)]
    simp only [RepV]
    exact ⟨p, vs, [], rfl, rfl, upd_same, l, h.shs _⟩
theorem pairD_ok {G : Gc} {H : Hp} : ∀ {xs : List D} {r : List Key × List D} {vs : List V}, pairD xs = some r → RepDs G H xs vs → ∃ (ps : List Addr) (us : List V), vs = ps.map V.ref ∧ r.1.length = us.length ∧ RepDs G H r.2 us ∧ ∀ {H' : Hp}, Le H H' → Paired (fun p kv => SqT G.K H' p [kV kv.1, kv.2]) ps (r.1.zip us)
  | [], r, vs, h, t => by
    obtain rfl := Option.some.inj h
    rw [RepDs.nil_iff] at t
    exact ⟨[], [], t, rfl, by simp [RepDs], fun _ => .nil⟩
  | x :: xs, r, vs, h, t => by
    obtain ⟨v, vs, rfl, a1, a2⟩ := t.uncons
    cases x with
    | tup ys =>
      rcases ys with _ | ⟨k, _ | ⟨d, _ | ⟨_, _⟩⟩⟩ <;> first | (simp [pairD] at h; done) | skip
      simp only [pairD, Option.bind_eq_some_iff, Option.map_eq_some_iff] at h
      obtain ⟨k', e1, r', e2, rfl⟩ := h
      obtain ⟨ps, us, rfl, l, r1, pr⟩ := pairD_ok e2 a2
      simp only [RepD] at a1
      obtain ⟨p, ws, rfl, sq, rw⟩ := a1
      obtain ⟨w1, ws1, rfl, b1, b2⟩ := rw.uncons
      obtain ⟨w2, ws2, rfl, b3, b4⟩ := b2.uncons
      rw [RepDs.nil_iff] at b4
      subst b4
      refine ⟨p :: ps, w2 :: us, rfl, by simp [l], RepDs.cons b3 r1, fun s => .cons ?_ (pr s)⟩
      have : w1 = kV k' := by
        cases k <;> simp only [keyOf, Option.some.injEq] at e1 <;> first | (cases e1; done) | (subst e1; simpa only [RepD, kV] using b1)
      subst this
      exact SqT.of (s.keep sq IsDO.tup)
    | _ => simp [pairD] at h
def rDictX (K : PySem.W.Frag) : List V → Hp → VK → Prop := fun xs H Q => (∃ (a : Addr) (ps : List Addr) (kvs : List (Key × V)), xs = [.ref a] ∧ SqL K H a (ps.map V.ref) ∧ Paired (fun p kv => SqT K H p [kV kv.1, kv.2]) ps kvs ∧ ∀ p, H p = none → Q (.ref p) (upd H p (.dK (mergeK [] kvs)))) ∨
  ∃ (a : Addr) (kvs : List (Key × V)), xs = [.ref a] ∧ Rd H a (.dK kvs) ∧ ∀ p, H p = none → Q (.ref p) (upd H p (.dK kvs))
theorem cr_dictX {X : Cx} (hc : X.calm = true) : CallR X (.type "dict") (rDictX X.K) := by
  intro pins s σ H xs us Q I r h
  rcases h with h | h
  · exact call_dictP hc pins s σ H xs us Q I r h
  · exact call_dictD pins s σ H xs us Q I r h
theorem p_dictX {G : Gc} : P1 G (fun v => rDictX G.K [v]) gDict := fun d x hx v H Hs Q s t q => by
  unfold gDict at hx
  split at hx
  · rename_i xs
    simp only [Option.bind_eq_some_iff, Option.ite_none_right_eq_some, Option.some.injEq, ndK, decide_eq_true_eq] at hx
    obtain ⟨r, e1, nd, rfl⟩ := hx
    obtain ⟨a, vs, rfl, q1, r1⟩ := t
    obtain ⟨ps, us, rfl, l, r2, pr⟩ := pairD_ok e1 r1
    refine .inl ⟨a, ps, _, rfl, q1, pr s, fun p np => ?_⟩
    rw [mergeK_new (by rw [List.map_fst_zip (by omega)]; exact nd) (fun e _ => valV_nil), List.nil_append]
    exact q.dct l r2 p np
  · obtain rfl := Option.some.inj hx
    obtain ⟨a, vs, rfl, q1, l, r1⟩ := t
    exact .inr ⟨a, _, rfl, q1, fun p np => q.dct l r1 p np⟩
  · cases hx
theorem ok_dict (ok : Cok M S k W X) (B : Bi M S x (.type "dict")) (ha : OkL M X W [a] g) (hs : [a].all noStar = true) : OkO M X W (.Call (.Name x p) [a] [] pos) (fn g (p1 gDict)) :=
  ok_ty ok B (by rw [show M.G.K = X.K from ok.K.symm]; exact cr_dictX ok.calm) (primN p_dictX) ha hs
end
end Wp
end
section
set_option Elab.async false
set_option linter.all false
set_option maxRecDepth 100000
set_option maxHeartbeats 1000000
namespace Wp
open PySem PySem.Spec PyProof.Rows L2
theorem Rep.mutD {G : Gc} {η : Env} {σ : L2.St} {as : List Addr} {H Hs : Hp} {i : Nat} {ks : List Key} {ds : List D} (h : Rep G η σ as H Hs) (e : η[i]? = some (some (.od ks (ds.map .sh)))) : ∃ a vs, σ[i]? = some (some (.ref a)) ∧ H a = some (.dK (ks.zip vs)) ∧ ks.length = vs.length ∧ RepDs G Hs ds vs ∧
    ∀ ks' ds' vs', ks'.length = vs'.length → RepDs G Hs ds' vs' → ∃ as', Rep G (η.set i (some (.od ks' (ds'.map .sh)))) σ as' (upd H a (.dK (ks'.zip vs'))) Hs ∧ Ext as H Hs as' (upd H a (.dK (ks'.zip vs'))) Hs := by
  obtain ⟨v, a1, a2, a3, ev, rfl, rv, k⟩ := h.env.at e
  simp only [RepV] at rv
  obtain ⟨a, vs, bs, rfl, rfl, ha, hl, rs⟩ := rv
  obtain rfl := rs.sh_nil
  refine ⟨a, vs, ev, ha, hl, rs.shs_inv, fun ks' ds' vs' hl' rd => ?_⟩
  have na : ∀ b ∈ a1 ++ a3, b ≠ a := fun b hb z => by
    subst z
    obtain ⟨n1, n2, n3⟩ := List.nodup_append.mp h.nd
    rcases List.mem_append.mp hb with z | z
    · exact n3 b z b (by simp) rfl
    · exact (List.nodup_cons.mp (show (b :: ([] ++ a3)).Nodup from n2)).1 (by simpa using z)
  have hsa : Hs a = none := h.off a (by simp)
  have k2 := k (upd H a (.dK (ks'.zip vs'))) Hs (some (.od ks' (ds'.map .sh))) (some (.ref a)) [a] ⟨_, rfl, by simp only [RepV]; exact ⟨a, vs', [], rfl, rfl, upd_same, hl', rd.shs _⟩⟩ (fun b hb o eo => by rw [upd_ne (na b hb)]; exact eo) Le.refl
  rw [set_same ev] at k2
  refine ⟨_, ⟨fun b o eo => ?_, k2, by simpa using h.nd, fun b hb => h.off b (by simpa using hb), h.tp.upd (fun _ z => nomatch z)⟩, ⟨fun b o eo nb => ?_, Sub.refl, fun b z => .inl z, fun b hb => .inl (by simpa using hb)⟩⟩
  · have hb : b ≠ a := fun z => by
      subst z
      rw [hsa] at eo
      cases eo
    rcases h.le b o eo with z | ⟨ob, z1, z2⟩
    · exact .inl (by rw [upd_ne hb]; exact z)
    · exact .inr ⟨ob, z1, by rw [upd_ne hb]; exact z2⟩
  · rw [upd_ne (fun z => nb (by simp [z]))]
    exact eo
def putA {α : Type} (k : Key) (d : α) : List Key → List α → List α
  | k' :: ks, e :: ds => (if k' = k then d else e) :: putA k d ks ds
  | _, _ => []
def putKs (k : Key) (ks : List Key) : List Key := if (ks.any fun k' => decide (k' = k)) = true then ks else ks ++ [k]
def putVs {α : Type} (k : Key) (d : α) (ks : List Key) (ds : List α) : List α := if (ks.any fun k' => decide (k' = k)) = true then putA k d ks ds else ds ++ [d]
theorem putA_len {α : Type} (k : Key) (d : α) : ∀ {ks : List Key} {ds : List α}, ks.length = ds.length → (putA k d ks ds).length = ds.length
  | [], [], _ => rfl
  | k' :: ks, e :: ds, h => by simp [putA, putA_len k d (show ks.length = ds.length by simpa using h)]
  | [], _ :: _, h => by simp at h
  | _ :: _, [], h => by simp at h
theorem putK_zip (k : Key) (v : V) {ks : List Key} {vs : List V} (h : ks.length = vs.length) : putK (ks.zip vs) k v = (putKs k ks).zip (putVs k v ks vs) := by
  have e : ((ks.zip vs).any fun kv => decide (kv.1 = k)) = ks.any fun k' => decide (k' = k) := by
    rw [valV_any, dget_mem h]
  unfold putK putKs putVs
  rw [e]
  by_cases c : (ks.any fun k' => decide (k' = k)) = true
  · rw [if_pos c, if_pos c, if_pos c]
    clear c e
    induction ks generalizing vs with
    | nil => rfl
    | cons k' ks ih =>
      cases vs with
      | nil => simp at h
      | cons w vs =>
        rw [List.zip_cons_cons, List.map_cons, ih (by simpa using h), putA, List.zip_cons_cons]
        by_cases z : k' = k
        · rw [if_pos z, if_pos z]
        · rw [if_neg z, if_neg z]
  · rw [if_neg c, if_neg c, if_neg c, List.zip_append h]
    rfl
theorem putVs_len {α : Type} (k : Key) (d : α) {ks : List Key} {ds : List α} (h : ks.length = ds.length) : (putKs k ks).length = (putVs k d ks ds).length := by
  unfold putKs putVs
  by_cases c : (ks.any fun k' => decide (k' = k)) = true
  · rw [if_pos c, if_pos c, putA_len k d h, h]
  · rw [if_neg c, if_neg c]
    simp [h]
theorem putA_rep {G : Gc} {H : Hp} (k : Key) {d : D} {v : V} (hd : RepD G H d v) : ∀ {ks : List Key} {ds : List D} {vs : List V}, ks.length = vs.length → RepDs G H ds vs → RepDs G H (putA k d ks ds) (putA k v ks vs)
  | [], ds, vs, h, r => by
    obtain rfl : vs = [] := List.length_eq_zero_iff.mp (by simpa using h.symm)
    have := r.length
    obtain rfl : ds = [] := List.length_eq_zero_iff.mp (by simpa using this)
    simp [putA, RepDs]
  | k' :: ks, [], vs, h, r => by
    rw [RepDs.nil_iff] at r
    subst r
    simp at h
  | k' :: ks, e :: ds, vs, h, r => by
    obtain ⟨w, ws, rfl, a, b⟩ := r.uncons
    rw [putA, putA]
    refine RepDs.cons ?_ (putA_rep k hd (by simpa using h) b)
    by_cases z : k' = k
    · rw [if_pos z, if_pos z]; exact hd
    · rw [if_neg z, if_neg z]; exact a
theorem putVs_rep {G : Gc} {H : Hp} (k : Key) {d : D} {v : V} (hd : RepD G H d v) {ks : List Key} {ds : List D} {vs : List V} (h : ks.length = vs.length) (r : RepDs G H ds vs) : RepDs G H (putVs k d ks ds) (putVs k v ks vs) := by
  unfold putVs
  by_cases c : (ks.any fun k' => decide (k' = k)) = true
  · rw [if_pos c, if_pos c]; exact putA_rep k hd h r
  · rw [if_neg c, if_neg c]; exact r.append (RepDs.cons hd (by simp [RepDs]))
def shDict : Val → Option (List Key × List D)
  | .od ks xs => (shAll xs).map fun ds => (ks, ds)
  | _ => none
theorem shDict_inv {y : Val} {ks : List Key} {ds : List D} (h : shDict y = some (ks, ds)) : y = .od ks (ds.map .sh) := by
  cases y <;> first | cases h | skip
  rename_i ks' xs
  simp only [shDict, Option.map_eq_some_iff, Prod.mk.injEq] at h
  obtain ⟨ds', e, rfl, rfl⟩ := h
  rw [shAll_inv e]
def isOd (η : Env) (i : Nat) : Bool := match η[i]? with
  | some (some (.od _ _)) => true
  | _ => false
theorem od_ref {G : Gc} {η : Env} {σ : L2.St} {as : List Addr} {H Hs : Hp} {i : Nat} (h : Rep G η σ as H Hs) (e : isOd η i = true) : ∃ a, σ[i]? = some (some (.ref a)) := by
  unfold isOd at e
  split at e
  · rename_i ks xs he
    obtain ⟨v, a1, a2, a3, ev, _, rv, _⟩ := h.env.at he
    simp only [RepV] at rv
    obtain ⟨a, _, _, rfl, _⟩ := rv
    exact ⟨a, ev⟩
  · cases e
/-- d[k] = e -/
def fSetD (i : Nat) (fe fi : FO) : FS := fun η => bindR (fe η) fun o η1 => match escS o η1 with
  | some (d, η2) => if isOd η2 i = true then bindR (fi η2) fun q η3 => (match prepAll [q] η3 with
    | some ([kd], η4) => (match keyOf kd, (η4[i]?).bind fun y => y.bind shDict with
      | some k, some (ks, ds) => if ks.length < sizeLine then okR .next (η4.set i (some (.od (putKs k ks) ((putVs k d ks ds).map .sh)))) else none
      | _, _ => none)
    | _ => none) else none
  | none => none
section
variable {M : Md} {S : Sc} {k : Nat} {W : WX} {X : Cx} {kp : List Nat} {a b c e : Expr} {es : List Expr} {fa fb fc : FO} {g : FL} {pos p : Pos} {x : Str}
theorem swaps_sub {e a b : Expr} {q : Pos} {l : Nat} {env : PySem.Env} : swapsWith e (some (.Subscript a b q)) l env = pure false := by
  cases e <;> rfl
theorem ok_setD (ok : Cok M S k W X) {i : Nat} {ix : Expr} {spos : Pos} (n : Nm S x i) (he : OkO M X W e fa) (hi : OkO M X W ix fb) (hsw : e = e) : OkS M X W kp (.Assign [.Subscript (.Name x p) ix spos] e pos) (fSetD i fa fb) := by
  obtain ⟨t, ht, hh⟩ := he
  obtain ⟨ti, hti, hhi⟩ := hi
  refine ⟨_, ps_dput (by have := ok.un; omega) (n.pe ok) hti ht swaps_sub, fun η σ as H Hs res D hR hf hp => ?_⟩
  rcases bindR_inv hf with ⟨o, η1, e1, e2⟩ | ⟨c, p, η1, e1, rfl⟩
  · refine hh η σ as H Hs _ _ hR e1 fun zv as' H' Hs' r1 l1 x1 => ?_
    cases e3 : escS o η1 with
    | none =>
      rw [e3] at e2
      cases e2
    | some q =>
      obtain ⟨d, η2⟩ := q
      rw [e3] at e2
      simp only at e2
      obtain ⟨as2, Hs2, r2, x2, rd⟩ := escS_ok r1 l1 e3
      by_cases hol : isOd η2 i = true
      rotate_left
      · rw [if_neg hol] at e2
        cases e2
      rw [if_pos hol] at e2
      obtain ⟨a, ev⟩ := od_ref r2 hol
      refine ⟨_, ev, ?_⟩
      rcases bindR_inv e2 with ⟨q, η3, e4, e5⟩ | ⟨c, p, η3, e4, rfl⟩
      · refine hhi η2 σ as2 H' Hs2 _ _ r2 e4 fun iv as3 H3 Hs3 r3 l3 x3 => ?_
        cases e6 : prepAll [q] η3 with
        | none =>
          rw [e6] at e5
          cases e5
        | some q2 =>
          obtain ⟨dl, η4⟩ := q2
          rw [e6] at e5
          obtain ⟨kd, rfl⟩ : ∃ d1, dl = [d1] := by
            rcases dl with _ | ⟨d1, _ | ⟨_, _⟩⟩ <;> first | exact ⟨_, rfl⟩ | (simp at e5; done)
          obtain ⟨as4, Hs4, r4, x4, t4⟩ := prep_ok (os := [q]) (vs := [iv]) r3 ⟨iv, [], rfl, l3, rfl⟩ e6
          obtain ⟨w, ws, z, t5, _⟩ := t4.uncons
          obtain ⟨rfl, rfl⟩ := List.cons.inj z
          simp only at e5
          cases e7 : keyOf kd with
          | none =>
            rw [e7] at e5
            cases e5
          | some key =>
            cases e8 : (η4[i]?).bind fun y => y.bind shDict with
            | none =>
              rw [e7, e8] at e5
              cases e5
            | some kd2 =>
              obtain ⟨ks, ds⟩ := kd2
              rw [e7, e8] at e5
              simp only at e5
              by_cases hz : ks.length < sizeLine
              rotate_left
              · rw [if_neg hz] at e5
                cases e5
              rw [if_pos hz] at e5
              obtain rfl : res = .ok .next _ := (Option.some.inj e5).symm
              simp only [Option.bind_eq_some_iff] at e8
              obtain ⟨y0, e9, y, rfl, e10⟩ := e8
              obtain rfl := shDict_inv e10
              obtain ⟨a', vs, ev', ha, hl, rds, mk⟩ := Rep.mutD r4 e9
              rw [ev] at ev'
              obtain rfl : a = a' := by simpa using ev'
              have rd2 := rd.le ((x3.grow.trans x4.grow).le)
              obtain ⟨as5, r5, x5⟩ := mk (putKs key ks) (putVs key d ks ds) (putVs key zv ks vs) (putVs_len key zv hl) (putVs_rep key rd2 hl rds)
              refine ⟨a, _, rfl, .inl ⟨_, key, ha, keyOf_ok t5 e7, by rw [List.length_zip]; omega, rfl⟩, ?_⟩
              rw [putK_zip key zv hl]
              exact hp σ as5 _ _ r5 (x1.trans (x2.trans (x3.trans (x4.trans x5)))) Kept.refl
      · refine hhi η2 σ as2 H' Hs2 _ _ r2 e4 fun u dx as3 H3 Hs3 r3 hX x3 => ?_
        exact hp u dx σ as3 H3 Hs3 r3 hX (x1.trans (x2.trans x3)) Kept.refl
  · exact hh η σ as H Hs _ _ hR e1 (PostX.toS hp)
theorem OkS.or {st : Stmt} {f f' fq : FS} (h1 : OkS M X W kp st f) (h2 : OkS M X W kp st f') (h : ∀ η r, fq η = some r → f η = some r ∨ f' η = some r) : OkS M X W kp st fq := by
  obtain ⟨t1, p1, q1⟩ := h1
  obtain ⟨t2, p2, q2⟩ := h2
  refine ⟨fun D σ H => t1 D σ H ∨ t2 D σ H, ⟨fun pins s σ H D I hw => hw.elim (p1.run pins s σ H D I) (p2.run pins s σ H D I)⟩, fun η σ as H Hs r D hR hf hp => ?_⟩
  rcases h η r hf with z | z
  · exact .inl (q1 η σ as H Hs r D hR z hp)
  · exact .inr (q2 η σ as H Hs r D hR z hp)
def fDict0 : FO := fun η => okR (.pend (.od [] [])) η
def fIns (i : Nat) (g : FL) : FO := fun η => match η[i]? with
  | some (some (.ol _)) => bindR (g η) fun os η1 => (match escAll os η1 with
    | some ([.sh (.int j), .sh d], η2) => (match (η2[i]?).bind fun y => y.bind shList with
      | some ds => if ds.length < sizeLine ∧ 0 ≤ j ∧ j < 2 ^ 63 then okR (.pend (.sh .non)) (η2.set i (some (.ol ((ds.take j.toNat ++ [d] ++ ds.drop j.toNat).map .sh)))) else none
      | none => none)
    | _ => none)
  | _ => none
theorem ok_insert (ok : Cok M S k W X) {i : Nat} {apos : Pos} {e2 : Expr} (n : Nm S x i) (he : OkL M X W [e, e2] g) (hs : noStar e = true) (hs2 : noStar e2 = true) (hl : (apos.endLine == pos.line) = true) :
    OkO M X W (.Call (.Attribute (.Name x p) "insert" apos) [e, e2] [] pos) (fIns i g) := by
  obtain ⟨t, ht, hh⟩ := he
  refine ⟨_, pe_bm (n.pe ok) (pa := PySem.F.plainAttrs_list) (slot := PySem.F.slot_list_insert) (hty := PySem.F.type_list_insert) (hm := mt_insert) (ha := ht) (hbase := base_ok rfl) (hfew := by rw [star_cons hs, star_cons hs2]; rfl) (hline := hl) (hs := star_cons hs) (hplain := by rw [star_cons hs2]; rfl), fun η σ as H Hs res Q hR hf hp => ?_⟩
  unfold fIns at hf
  split at hf
  rotate_left
  · cases hf
  rename_i us e0
  obtain ⟨v, a1, a2, a3, ev, _, rv, _⟩ := hR.env.at e0
  simp only [RepV] at rv
  obtain ⟨l, vs0, bs, rfl, _, hl0, _⟩ := rv
  refine ⟨_, ev, .inl ⟨rfl, _, SqL.of hl0⟩, ?_⟩
  show t σ H _
  rcases bindR_inv hf with ⟨os, η1, e1, e2⟩ | ⟨c, p, η1, e1, rfl⟩
  · refine hh η σ as H Hs _ _ hR e1 fun vs as' H' Hs' r1 l1 x1 => ?_
    split at e2
    rotate_left
    · cases e2
    rename_i j d η2 e3
    obtain ⟨as2, Hs2, r2, x2⟩ := escAll_ok (π := []) (τ := []) r1 rfl l1 e3
    obtain ⟨v1, v2, rfl⟩ : ∃ v1 v2, vs = [v1, v2] := by
      have q1 := l1.length
      have q2 := (escAll_len os _ _ _ e3).2
      rcases vs with _ | ⟨v1, _ | ⟨v2, _ | ⟨_, _⟩⟩⟩ <;> first | exact ⟨_, _, rfl⟩ | (simp at q1 q2; omega)
    have r2 : Rep M.G (some (.sh (.int j)) :: some (.sh d) :: η2) (some v1 :: some v2 :: σ) as2 H' Hs2 := r2
    obtain ⟨rfl, rd⟩ : v1 = .int j ∧ RepD M.G Hs2 d v2 := by
      obtain ⟨u1, τ1, b1, b2, z1, _, rv1, q1⟩ := r2.env
      obtain ⟨z2, rfl⟩ := List.cons.inj z1
      obtain rfl := Option.some.inj z2
      obtain ⟨u2, τ2, b3, b4, z3, _, rv2, _⟩ := q1
      obtain ⟨z4, rfl⟩ := List.cons.inj z3
      obtain rfl := Option.some.inj z4
      exact ⟨by simpa only [RepD] using (RepV.sh_iff.mp rv1).2, (RepV.sh_iff.mp rv2).2⟩
    obtain ⟨as3, r3, m3⟩ := Rep.pop r2
    obtain ⟨as4, r4, m4⟩ := Rep.pop r3
    split at e2
    rotate_left
    · cases e2
    rename_i ds e5
    by_cases hc : ds.length < sizeLine ∧ 0 ≤ j ∧ j < 2 ^ 63
    rotate_left
    · rw [if_neg hc] at e2
      cases e2
    rw [if_pos hc] at e2
    obtain rfl : res = .ok (.pend (.sh .non)) _ := (Option.some.inj e2).symm
    simp only [Option.bind_eq_some_iff] at e5
    obtain ⟨y0, e6, y, rfl, e7⟩ := e5
    obtain rfl := shList_inv e7
    obtain ⟨l', ws, ev', hl', rds, mk⟩ := Rep.mutS r4 e6
    rw [ev] at ev'
    obtain rfl : l = l' := by simpa using ev'
    obtain ⟨as5, r5, x5⟩ := mk (ds.take j.toNat ++ [d] ++ ds.drop j.toNat) (ws.take j.toNat ++ [v2] ++ ws.drop j.toNat) ((RepDs.append (rds.take _) (RepDs.cons rd (by simp [RepDs]))).append (rds.drop _))
    exact ⟨l, ws, j, v2, rfl, rfl, hl', by rw [← rds.length]; exact hc.1, hc.2.1, hc.2.2, hp .non _ _ _ (r5.push_sh (by simp only [RepD])) trivial (x1.trans ((x2.less fun a ha => m3 a (m4 a ha)).trans x5))⟩
  · exact hh η σ as H Hs _ _ hR e1 hp
def fAppP (i j : Nat) : FO := fun η => match η[i]? with
  | some (some (.ot xs)) => (match xs[j]? with
    | some (.ol us) => if us.length < sizeLine then okR (.pend (.sh .non)) (η.set i none) else none
    | _ => none)
  | _ => none
theorem RepVs.nth {G : Gc} {H Hs : Hp} : ∀ {xs : List Val} {vs : List V} {as : List Addr} {j : Nat} {x : Val}, RepVs G H Hs xs vs as → xs[j]? = some x → ∃ v b, vs[j]? = some v ∧ RepV G H Hs x v b ∧ ∀ c ∈ b, c ∈ as
  | [], _, _, _, _, _, e => by simp at e
  | y :: xs, vs, as, 0, x, h, e => by
    obtain ⟨v, ws, a1, a2, rfl, rfl, p, q⟩ := h.uncons
    obtain rfl : y = x := by simpa using e
    exact ⟨v, a1, rfl, p, fun c hc => by simp [hc]⟩
  | y :: xs, vs, as, j + 1, x, h, e => by
    obtain ⟨v, ws, a1, a2, rfl, rfl, p, q⟩ := h.uncons
    obtain ⟨u, b, e1, r, m⟩ := RepVs.nth (j := j) q (by simpa using e)
    exact ⟨u, b, by simpa using e1, r, fun c hc => by simp [m c hc]⟩
end
end Wp
end
section
set_option Elab.async false
set_option linter.all false
set_option maxRecDepth 100000
set_option maxHeartbeats 1000000
namespace Wp
open PySem PySem.Spec PyProof.Rows L2
def fTadd (fa fb : FO) : FO := fun η => bindR (fa η) fun o η1 => bindR (fb η1) fun p η2 => match escAll [o, p] η2 with
  | some ([x, y], η3) => (match x.d, y.d with
    | .tup xs, .tup ys => if xs.length + ys.length ≤ sizeLine then (if xs.isEmpty then okR (.pend (.sh (.tup ys))) η3 else if ys.isEmpty then okR (.pend (.sh (.tup xs))) η3 else okR (.pend (.ot ((xs ++ ys).map .sh))) η3) else none
    | _, _ => none)
  | _ => none
section
variable {M : Md} {S : Sc} {k : Nat} {W : WX} {X : Cx} {kp : List Nat} {a b c e : Expr} {es : List Expr} {fa fb fc : FO} {g : FL} {pos p : Pos} {x : Str}
theorem ok_tadd (ok : Cok M S k W X) (ha : OkO M X W a fa) (hb : OkO M X W b fb) : OkO M X W (.BinOp a .Add b pos) (fTadd fa fb) := by
  obtain ⟨ta, hta, hha⟩ := ha
  obtain ⟨tb, htb, hhb⟩ := hb.framed
  refine ⟨_, pe_op op_catA hta htb, fun η σ as H Hs res Q hR hf hp => ?_⟩
  rcases bindR_inv hf with ⟨o, η1, e1, e2⟩ | ⟨c, p, η1, e1, rfl⟩
  · refine hha η σ as H Hs _ _ hR e1 fun v as' H' Hs' r1 l1 x1 => ?_
    rcases bindR_inv e2 with ⟨o2, η2, e3, e4⟩ | ⟨c, p, η2, e3, rfl⟩
    · refine hhb [o.p] [some v] η1 σ as' H' Hs' _ _ r1 rfl e3 fun v2 as2 H2 Hs2 r2 l2 x2 => ?_
      split at e4
      rotate_left
      · cases e4
      rename_i x y η3 e5
      obtain ⟨as3, Hs3, r3, x3⟩ := escAll_ok (os := [o, o2]) (vs := [v, v2]) (π := []) (τ := []) r2 rfl ⟨_, _, rfl, l1, _, _, rfl, l2, rfl⟩ e5
      have r3 : Rep M.G (some x :: some y :: η3) (some v :: some v2 :: σ) as3 H2 Hs3 := r3
      obtain ⟨as4, Hs4, r4, x4, d1⟩ := Rep.freeze0 r3
      obtain ⟨w, as5, Hs5, ew, r5, x5, d2⟩ := Rep.freeze (i := 1) r4 rfl
      obtain rfl : v2 = w := by simpa using ew
      have d1 := d1.le x5.grow.le
      obtain ⟨as6, r6, m6⟩ := Rep.pop (x := some (.sh x.d)) (v := some v) r5
      obtain ⟨as7, r7, m7⟩ := Rep.pop (x := some (.sh y.d)) (v := some v2) r6
      have x7 : Ext as H Hs as7 H2 Hs5 := x1.trans (x2.trans (x3.trans (x4.trans (x5.less fun a ha => m6 a (m7 a ha)))))
      split at e4
      rotate_left
      · cases e4
      rename_i xs ys ex ey
      rw [ex] at d1
      rw [ey] at d2
      have d1' := d1
      have d2' := d2
      simp only [RepD] at d1' d2'
      obtain ⟨q1, vs, rfl, s1, rs1⟩ := d1'
      obtain ⟨q2, us, rfl, s2, rs2⟩ := d2'
      by_cases hz : xs.length + ys.length ≤ sizeLine
      rotate_left
      · rw [if_neg hz] at e4
        cases e4
      rw [if_pos hz] at e4
      refine ⟨q1, q2, vs, us, rfl, rfl, SqT.of (r7.le.keep s1 IsDO.tup), SqT.of (r7.le.keep s2 IsDO.tup), by rw [← rs1.length, ← rs2.length]; exact hz, fun z => ?_, fun z z2 => ?_, fun z z2 p np => ?_⟩
      · subst z
        have : xs = [] := List.length_eq_zero_iff.mp (by rw [rs1.length]; rfl)
        subst this
        obtain rfl : res = .ok (.pend (.sh (.tup ys))) η3 := (Option.some.inj e4).symm
        exact hp _ _ _ _ (r7.push_sh d2) trivial x7
      · subst z2
        have hy : ys = [] := List.length_eq_zero_iff.mp (by rw [rs2.length]; rfl)
        subst hy
        have hx : xs.isEmpty = false := by
          cases xs with
          | nil =>
            rw [RepDs.nil_iff] at rs1
            exact absurd rs1 z
          | cons _ _ => rfl
        rw [hx] at e4
        obtain rfl : res = .ok (.pend (.sh (.tup xs))) η3 := (Option.some.inj e4).symm
        exact hp _ _ _ _ (r7.push_sh d1) trivial x7
      · have hx : xs.isEmpty = false := by
          cases xs with
          | nil =>
            rw [RepDs.nil_iff] at rs1
            exact absurd rs1 z
          | cons _ _ => rfl
        have hy : ys.isEmpty = false := by
          cases ys with
          | nil =>
            rw [RepDs.nil_iff] at rs2
            exact absurd rs2 z2
          | cons _ _ => rfl
        rw [hx, hy] at e4
        obtain rfl : res = .ok (.pend (.ot ((xs ++ ys).map .sh))) η3 := (Option.some.inj e4).symm
        obtain ⟨r8, x8⟩ := r7.push' (b := []) (x := .ot ((xs ++ ys).map .sh)) (v := .ref p) (H' := upd H2 p (.tup (vs ++ us))) (fun b o e => by rw [upd_ne (ne_of_none e np)]; exact e)
          (by simp only [RepV]; exact ⟨p, vs ++ us, rfl, addT_tup np upd_same, (RepDs.le (rs1.append rs2) (addT_sub r7.le).le).shs _⟩) (by simp) (fun _ z => nomatch z)
        exact hp _ _ _ _ r8 trivial (x7.trans x8)
    · refine hhb [o.p] [some v] η1 σ as' H' Hs' _ _ r1 rfl e3 fun v2 dx as2 H2 Hs2 r2 hX x2 => ?_
      exact hp v2 dx as2 H2 Hs2 r2 hX (x1.trans x2)
  · exact hha η σ as H Hs _ _ hR e1 hp
end
theorem fn_never {M : Md} {k n : Nat} {N ps : List Str} {qual x : Str} {params : Arguments} {body : List Stmt} {scope : Scope} {dvs : List V} {kws : List (Str × V)} {f : Addr} {fd : FuncData} (F : FunD M.K x qual params body scope dvs kws f fd) (S : FnScope N ps scope) :
    FnG M.prog M.w M.K M.mg M.base (k + 1) f fd ps (spD M n fun _ => none) := by
  refine FunD.fnG F S (fun vs H Q E h => ?_) fun cdv A outer s H vs Q E gd hr h => ?_
  · obtain ⟨_, xs, as, Hs, r, _, e, _⟩ := h
    cases e
  · obtain ⟨_, xs, as, Hs, r, _, e, _⟩ := h
    cases e
end Wp
end
section
set_option Elab.async false
set_option linter.all false
set_option maxRecDepth 100000
set_option maxHeartbeats 1000000
namespace Wp
open PySem PySem.Spec PyProof.Rows L2
section
variable {M : Md} {S : Sc} {k : Nat} {W : WX} {X : Cx} {kp : List Nat} {pos p : Pos}
def flOf : List FO → FL
  | [] => fNil
  | f :: fs => fCons f (flOf fs)
/-- {k: e, ..}: constants as keys, flat values -/
def fDictL (ks : List Str) (fs : List FO) : FO := fun η => match flOf fs η with
  | some (.ok os η1) => (match prepAll os η1 with
    | some (ds, η2) => if ks.length = ds.length ∧ ks.length ≤ 15 ∧ ndK (ks.map .inr) = true ∧ ds.all immD = true then okR (.pend (.od (ks.map .inr) (ds.map .sh))) η2 else none
    | none => none)
  | _ => none
end
end Wp
end
section
set_option Elab.async false
set_option linter.all false
set_option maxRecDepth 100000
set_option maxHeartbeats 1000000
namespace Wp
open PySem PySem.Spec PyProof.Rows L2
structure Ys {α : Type} (ys : List Val) (xs : List α) (e : α → Val) : Prop where
  h : ys = xs.map e
theorem ys_shm {α : Type} {xs : List α} {f : α → D} : Ys ((xs.map f).map Val.sh) xs (fun x => Val.sh (f x)) := ⟨by rw [List.map_map]; rfl⟩
theorem ys_sh {ds : List D} : Ys (ds.map Val.sh) ds Val.sh := ⟨rfl⟩
theorem ys_map {α : Type} {xs : List α} {f : α → Val} : Ys (xs.map f) xs f := ⟨rfl⟩
theorem ys_rng {a : Int} {n : Nat} : Ys (rngV a n) (List.range n) (fun i : Nat => Val.sh (.int (a + i))) := ⟨rfl⟩
theorem ys_keys {ks : List Key} : Ys (keysV ks) ks (fun k => Val.sh (keyD k)) := ⟨rfl⟩
theorem ys_keysm {α : Type} {xs : List α} {f : α → Key} : Ys (keysV (xs.map f)) xs (fun x => Val.sh (keyD (f x))) := ⟨by unfold keysV; rw [List.map_map]; rfl⟩
theorem ys_sgn {z : Str} : Ys (sgnV z) z.cps.toList (fun c => Val.sh (.str ⟨#[c]⟩)) := ⟨rfl⟩
section
variable {η η0 η1 η2 η3 η4 ηa ηb ηc ηd : Env} {o p : Opv} {os : List Opv} {fa fb fc f : FO} {g : FL} {x y z : Val} {d e : D} {ds : List D} {i j : Nat} {b : Bool}
variable {it : FI} {gt : FG} {ca : FT} {vs : List Nat} {n : Nat} {ys : List Val}
structure LcB (f : FO) (vs : List Nat) (η ηb : Env) (z : Val) : Prop where
  h : ∃ o ηc ηd, f ηb = some (.ok o ηc) ∧ esc1 o ηc = some (z, ηd) ∧ wipeE ηd vs = η
theorem LcB.mk' {z' : Val} (h : f ηb = some (.ok o ηc)) (h2 : Lf (esc1 o ηc = some (z', ηd))) (h3 : Lf (wipeE ηd vs = η)) (h4 : z = z') : LcB f vs η ηb z := by
  subst h4
  exact ⟨o, ηc, ηd, h, h2.h, h3.h⟩
theorem LcB.no {b : Bool} (h : b = true) (h2 : b = false) : LcB f vs η ηb (.sh .non) := by
  rw [h] at h2
  cases h2
structure LcI (gt : FG) (ca : FT) (f : FO) (n : Nat) (vs : List Nat) (η : Env) (y : Val) (t : Bool) (z : Val) : Prop where
  h : ∃ ηa ηb, gt y η = some ηa ∧ ηa.length = n ∧ ca ηa = some (.ok t ηb) ∧ (t = true → LcB f vs η ηb z) ∧ (t = false → wipeE ηb vs = η)
theorem LcI.mk' {t : Bool} (h1 : Lf (gt y η = some ηa)) (h2 : Lf (ηa.length = n)) (h3 : ca ηa = some (.ok b ηb)) (h4 : t = b) (h6 : Lf (wipeE ηb vs = η)) (h5 : b = true → LcB f vs η ηb z) : LcI gt ca f n vs η y t z := by
  subst h4
  exact ⟨ηa, ηb, h1.h, h2.h, h3, h5, fun _ => h6.h⟩
theorem loopC_map {α : Type} {e : α → Val} (t : α → Bool) (z : α → Val) : ∀ (xs : List α) (acc : List Val), acc.length + xs.length < sizeLine → (∀ x ∈ xs, LcI gt ca f n vs η (e x) (t x) (z x)) →
    loopC n vs gt ca f (xs.map e) acc η = some (.ok (.pend (.ol (acc ++ (xs.filter t).map z))) η)
  | [], acc, _, _ => by simp [loopC, okR]
  | x :: xs, acc, hl, h => by
    obtain ⟨ηa, ηb, h1, h2, h3, h4, h5⟩ := (h x (List.mem_cons_self ..)).h
    simp only [List.length_cons] at hl
    simp only [List.map_cons, loopC, h1, h2, if_true, h3]
    cases ht : t x with
    | true =>
      obtain ⟨o, ηc, ηd, k1, k2, k3⟩ := (h4 ht).h
      simp only [if_true, k1, k2]
      rw [if_pos (by omega), k3, loopC_map t z xs (acc ++ [z x]) (by simp; omega) fun y' hy => h y' (List.mem_cons_of_mem _ hy)]
      simp [List.filter_cons, ht]
    | false =>
      simp only [Bool.false_eq_true, if_false]
      rw [h5 ht, loopC_map t z xs acc (by omega) fun y' hy => h y' (List.mem_cons_of_mem _ hy)]
      simp [List.filter_cons, ht]
/-- [z for x in xs if t], all of whose parts change nothing -/
theorem e_lcP {α : Type} {xs : List α} {ev : α → Val} {t : α → Bool} {z : α → Val} (h : it η = some (.ok ys η1)) (hx : Ys ys xs ev) (h2 : Lf (η1.length = n)) (h3 : Lf (wipeE η1 vs = η2)) (hs : Sz (xs.length < sizeLine))
    (hb : ∀ x, x ∈ xs → LcI gt ca f n vs η2 (ev x) (t x) (z x)) : fLc n vs it gt ca f η = some (.ok (.pend (.ol ((xs.filter t).map z))) η2) := by
  unfold fLc
  have hs := hs.h
  rw [h, bindR_some, if_pos h2.h, h3.h, hx.h, loopC_map t z xs [] (by simp; omega) hb]
  rfl
/-- without a test -/
theorem e_lcY {α : Type} {xs : List α} {ev : α → Val} {z : α → Val} (h : it η = some (.ok ys η1)) (hx : Ys ys xs ev) (h2 : Lf (η1.length = n)) (h3 : Lf (wipeE η1 vs = η2)) (hs : Sz (xs.length < sizeLine))
    (hb : ∀ x, x ∈ xs → LcI gt fYes f n vs η2 (ev x) true (z x)) : fLc n vs it gt fYes f η = some (.ok (.pend (.ol (xs.map z))) η2) := by
  have := e_lcP (t := fun _ => true) h hx h2 h3 hs hb
  rwa [List.filter_eq_self.mpr (fun _ _ => rfl)] at this
theorem e_lcK {o : Opv} {ks : List Key} (h : Lf (η[i]? = some (some y))) (h2 : Lf (y.d = .dict ks ds)) (h3 : Lf (η.set i (some (.sh (.dict ks ds))) = η1)) (h4 : fLc n vs (fKeys i) gt ca f η1 = some (.ok o η2)) : fLcK n vs i gt ca f η = some (.ok o η2) := by
  unfold fLcK
  simp only [h.h, h2.h, h3.h, h4, D.lockD, if_true]
theorem e_keys {ks : List Key} (h : Lf (η[i]? = some (some (.sh (.dict ks ds))))) : fKeys i η = some (.ok (keysV ks) η) := by
  unfold fKeys
  simp only [h.h, okR]
theorem e_strI {z : Str} (h : f η = some (.ok o η1)) (h2 : Lf (esc1 o η1 = some (.sh (.str z), η2))) : fStrI f η = some (.ok (sgnV z) η2) := by
  unfold fStrI
  rw [h, bindR_some]
  simp only [h2.h, okR]
variable {body : FS}
theorem e_tadd {xs ys : List D} (h1 : fa η = some (.ok o η1)) (h2 : fb η1 = some (.ok p η2)) (h3 : Lf (escAll [o, p] η2 = some ([x, y], η3))) (h4 : Lf (x.d = .tup xs)) (h5 : Lf (y.d = .tup ys)) (h6 : Sz (xs.length + ys.length ≤ sizeLine)) (h7 : Lf ((if xs.isEmpty then Val.sh (.tup ys) else if ys.isEmpty then .sh (.tup xs) else .ot ((xs ++ ys).map .sh)) = z)) :
    fTadd fa fb η = some (.ok (.pend z) η3) := by
  unfold fTadd
  rw [h1, bindR_some, h2, bindR_some]
  simp only [h3.h, h4.h, h5.h, if_pos h6.h]
  rw [← h7.h]
  split
  · rfl
  · split <;> rfl
theorem e_dict0 : fDict0 η = some (.ok (.pend (.od [] [])) η) := rfl
theorem fl_nil : flOf [] η = some (.ok [] η) := rfl
theorem fl_cons {fs : List FO} (h : f η = some (.ok o η1)) (h2 : flOf fs η1 = some (.ok os η2)) : flOf (f :: fs) η = some (.ok (o :: os) η2) := e_cons h h2
theorem e_dictL {ks : List Str} {fs : List FO} (h : flOf fs η = some (.ok os η1)) (h2 : Lf (prepAll os η1 = some (ds, η2))) (h3 : Lf (ks.length = ds.length)) (h4 : Lf (decide (ks.length ≤ 15 ∧ ndK (ks.map .inr) = true ∧ ds.all immD = true) = true)) : fDictL ks fs η = some (.ok (.pend (.od (ks.map .inr) (ds.map .sh))) η2) := by
  unfold fDictL
  have h4 := of_decide_eq_true h4.h
  simp only [h, h2.h, if_pos (show ks.length = ds.length ∧ ks.length ≤ 15 ∧ ndK (ks.map .inr) = true ∧ ds.all immD = true from ⟨h3.h, h4.1, h4.2.1, h4.2.2⟩), okR]
theorem e_insert {us : List Val} {k : Int} (h0 : Lf (η[i]? = some (some (.ol us)))) (h : g η = some (.ok os η1)) (h2 : Lf (escAll os η1 = some ([.sh (.int k), .sh d], η2))) (h3 : Lf (η2[i]? = some (some y))) (h4 : Lf (shList y = some ds)) (h5 : Sz (ds.length < sizeLine ∧ 0 ≤ k ∧ k < 2 ^ 63))
    (h6 : Lf (η2.set i (some (.ol ((ds.take k.toNat ++ [d] ++ ds.drop k.toNat).map .sh))) = η3)) : fIns i g η = some (.ok (.pend (.sh .non)) η3) := by
  unfold fIns
  simp only [h0.h, h, bindR_some, h2.h, h3.h, Option.bind_some, h4.h, if_pos h5.h, h6.h, okR]
theorem e_setD {k : Key} {v : D} {ks : List Key} (h : fa η = some (.ok o η1)) (h2 : Lf (escS o η1 = some (v, η2))) (h3 : Lf (isOd η2 i = true)) (h4 : fb η2 = some (.ok p η3)) (h5 : Lf (prepAll [p] η3 = some ([d], η4))) (h6 : Lf (keyOf d = some k)) (h7 : Lf (η4[i]? = some (some y))) (h8 : Lf (shDict y = some (ks, ds)))
    (h10 : Sz (ks.length < sizeLine)) (h9 : Lf (η4.set i (some (.od (putKs k ks) ((putVs k v ks ds).map .sh))) = η0)) : fSetD i fa fb η = some (.ok .next η0) := by
  unfold fSetD
  rw [h, bindR_some]
  simp only [h2.h, h3.h, if_true, h4, bindR_some, h5.h, h6.h, h7.h, Option.bind_some, h8.h, if_pos h10.h, h9.h, okR]
theorem e_appP {xs us : List Val} (h : Lf (η[i]? = some (some (.ot xs)))) (h2 : Lf (xs[j]? = some (.ol us))) (h3 : Sz (us.length < sizeLine)) (h4 : Lf (η.set i none = η1)) : fAppP i j η = some (.ok (.pend (.sh .non)) η1) := by
  unfold fAppP
  simp only [h.h, h2.h, if_pos h3.h, h4.h, okR]
theorem shAll_mapF {α : Type} (l : List α) (f : α → D) : shAll (l.map fun x => Val.sh (f x)) = some (l.map f) := by
  have : (l.map fun x => Val.sh (f x)) = (l.map f).map Val.sh := by rw [List.map_map]; rfl
  rw [this, shAll_map]
theorem ds_mapF {α : Type} (l : List α) (f : α → Val) : Val.ds (l.map f) = l.map fun x => (f x).d := by
  rw [Val.ds_map, List.map_map]
  rfl
end
end Wp
end
section
set_option Elab.async false
set_option linter.all false
set_option maxRecDepth 100000
set_option maxHeartbeats 1000000
namespace Wp
open PySem PySem.Spec PyProof.Rows L2
theorem RepVs.app {G : Gc} {H Hs : Hp} : ∀ {xs ys : List Val} {vs ws : List V} {as bs : List Addr}, RepVs G H Hs xs vs as → RepVs G H Hs ys ws bs → RepVs G H Hs (xs ++ ys) (vs ++ ws) (as ++ bs)
  | [], ys, vs, ws, as, bs, h, t => by
    obtain ⟨rfl, rfl⟩ := RepVs.nil_iff.mp h
    exact t
  | x :: xs, ys, vs, ws, as, bs, h, t => by
    obtain ⟨v, us, a1, a2, rfl, rfl, p, q⟩ := h.uncons
    have := RepVs.cons p (RepVs.app q t)
    rwa [← List.append_assoc] at this
theorem RepVs.upd {G : Gc} {H Hs : Hp} {d : D} {v : V} {l : Addr} {ws : List V} {us : List Val} (hd : RepD G Hs d v) (hl : H l = some (.lst ws)) : ∀ {xs : List Val} {vs : List V} {as : List Addr} {j : Nat}, RepVs G H Hs xs vs as → as.Nodup → xs[j]? = some (.ol us) → vs[j]? = some (.ref l) →
    RepVs G (upd H l (.lst (ws ++ [v]))) Hs (xs.set j (.ol (us ++ [.sh d]))) vs as
  | [], _, _, _, _, _, e, _ => by simp at e
  | y :: xs, vs, as, 0, h, nd, e, e2 => by
    obtain ⟨w, vs', a1, a2, rfl, rfl, p, q⟩ := h.uncons
    obtain rfl : y = .ol us := by simpa using e
    obtain rfl : w = .ref l := by simpa using e2
    simp only [RepV] at p
    obtain ⟨a, zs, bs, ea, rfl, ha, r⟩ := p
    obtain rfl : l = a := by simpa using ea
    obtain rfl : zs = ws := by
      rw [hl] at ha
      simpa using ha.symm
    obtain ⟨n1, n2, n3⟩ := List.nodup_append.mp nd
    have n4 := List.nodup_cons.mp n1
    have sx : ∀ b, b ≠ l → ∀ o, H b = some o → L2.upd H l (.lst (zs ++ [v])) b = some o := fun b hb o eo => by rw [upd_ne hb]; exact eo
    refine RepVs.cons (a1 := l :: bs) ?_ (q.stay (fun b hb o eo => sx b (fun z => n3 l (by simp) b hb z.symm) o eo) Le.refl)
    simp only [RepV]
    refine ⟨l, zs ++ [v], bs, rfl, rfl, upd_same, ?_⟩
    have := RepVs.app (r.stay (H' := L2.upd H l (.lst (zs ++ [v]))) (fun b hb o eo => sx b (fun z => n4.1 (z ▸ hb)) o eo) (Le.refl (H := Hs))) (RepVs.cons (a1 := []) (RepV.sh_iff.mpr ⟨rfl, hd⟩) (RepVs.nil_iff.mpr ⟨rfl, rfl⟩))
    simpa using this
  | y :: xs, vs, as, j + 1, h, nd, e, e2 => by
    obtain ⟨w, vs', a1, a2, rfl, rfl, p, q⟩ := h.uncons
    obtain ⟨n1, n2, n3⟩ := List.nodup_append.mp nd
    have ih := RepVs.upd hd hl (j := j) q n2 (by simpa using e) (by simpa using e2)
    have la : l ∈ a2 := by
      obtain ⟨u, b, e3, ru, m⟩ := q.nth (j := j) (by simpa using e)
      simp only [RepV] at ru
      obtain ⟨l', _, _, rfl, rfl, _, _⟩ := ru
      have : vs'[j]? = some (.ref l) := by simpa using e2
      rw [this] at e3
      obtain rfl : l = l' := by simpa using e3
      exact m l (.head _)
    rw [List.set_cons_succ]
    refine RepVs.cons (p.stay (fun b hb o eo => ?_) Le.refl) ih
    rw [upd_ne (fun z : b = l => n3 b hb l la z)]
    exact eo
def fAppQ (i j : Nat) (d : D) : FO := fun η => match η[i]? with
  | some (some (.ot xs)) => (match xs[j]? with
    | some (.ol us) => if us.length < sizeLine then okR (.pend (.sh .non)) (η.set i (some (.ot (xs.set j (.ol (us ++ [.sh d])))))) else none
    | _ => none)
  | _ => none
section
variable {M : Md} {S : Sc} {k : Nat} {W : WX} {X : Cx} {kp : List Nat} {a b c e : Expr} {pos p : Pos} {x : Str}
end
theorem e_appQ {i j : Nat} {d : D} {η η1 : Env} {xs us : List Val} (h : Lf (η[i]? = some (some (.ot xs)))) (h2 : Lf (xs[j]? = some (.ol us))) (h3 : Sz (us.length < sizeLine)) (h4 : Lf (η.set i (some (.ot (xs.set j (.ol (us ++ [.sh d]))))) = η1)) : fAppQ i j d η = some (.ok (.pend (.sh .non)) η1) := by
  unfold fAppQ
  simp only [h.h, h2.h, if_pos h3.h, h4.h, okR]
end Wp
end
section
set_option Elab.async false
set_option linter.all false
set_option maxRecDepth 100000
set_option maxHeartbeats 1000000
namespace Wp
open PySem PySem.Spec PyProof.Rows L2
def whileF (ct : FT) (body : FS) : Nat → FS
  | 0, _ => none
  | n + 1, η => bindR (ct η) fun b η1 => if b = true then bindL (body η1) (whileF ct body n) else okR .next η1
def fWhile (n : Nat) (ct : FT) (body : FS) : FS := whileF ct body n
section
variable {M : Md} {S : Sc} {k : Nat} {W : WX} {X : Cx} {kp : List Nat} {pos : Pos}
theorem ok_while {c : Expr} {body : List Stmt} {fc : FT} {fb : FS} (n : Nat) (ok : Cok M S k W X) (hc : OkT M X W c fc) (hb : OkB M X W kp body fb) : OkS M X W kp (.While c body [] pos) (fWhile n fc fb) := by
  obtain ⟨tc, htc, hch⟩ := hc
  obtain ⟨tb, htb, hbh⟩ := hb
  refine ⟨_, ps_while ok.po htc htb, fun η σ as H Hs r D hR hf hp => ?_⟩
  refine ⟨fun m σ2 H2 => ∃ η2 as2 Hs2, Rep M.G η2 σ2 as2 H2 Hs2 ∧ whileF fc fb m η2 = some r ∧ Ext as H Hs as2 H2 Hs2 ∧ Kept kp σ σ2, ⟨n, η, as, Hs, hR, hf, Ext.refl, Kept.refl⟩, ?_⟩
  rintro m σ2 H2 ⟨η2, as2, Hs2, r2, e2, x2, k2⟩
  cases m with
  | zero => cases e2
  | succ m =>
    simp only [whileF] at e2
    cases ec : fc η2 with
    | none =>
      rw [ec] at e2
      cases e2
    | some rc =>
      rw [ec] at e2
      refine hch η2 σ2 as2 H2 Hs2 rc _ r2 ec ?_
      cases rc with
      | exc c p η3 =>
        obtain rfl : r = .exc c p η3 := (Option.some.inj e2).symm
        exact fun u dx as' H' Hs' r' hX x' => hp u dx σ2 as' H' Hs' r' hX (x2.trans x') k2
      | ok b η3 =>
        simp only [bindR_some] at e2
        intro as3 H3 Hs3 r3 x3
        cases b with
        | false =>
          rw [if_neg (by decide)] at e2 ⊢
          obtain rfl : r = .ok .next η3 := (Option.some.inj e2).symm
          exact hp σ2 as3 H3 Hs3 r3 (x2.trans x3) k2
        | true =>
          rw [if_pos rfl] at e2 ⊢
          refine ⟨fun σ' H' => ∃ η' as' Hs', Rep M.G η' σ' as' H' Hs' ∧ whileF fc fb m η' = some r ∧ Ext as H Hs as' H' Hs' ∧ Kept kp σ σ', fun σ' H' q => ⟨m, Nat.lt_succ_self m, q⟩, ?_⟩
          cases eb : fb η3 with
          | none =>
            rw [eb] at e2
            cases e2
          | some rb =>
            rw [eb] at e2
            refine hbh η3 σ2 as3 H3 Hs3 rb _ r3 eb ?_
            cases rb with
            | ok w η5 =>
              cases w with
              | next => exact fun σ' as' H' Hs' r' x' k' => ⟨η5, as', Hs', r', e2, x2.trans (x3.trans x'), k2.trans k'⟩
              | cont => exact fun σ' as' H' Hs' r' x' k' => ⟨η5, as', Hs', r', e2, x2.trans (x3.trans x'), k2.trans k'⟩
              | brk =>
                obtain rfl : r = .ok .next η5 := (Option.some.inj e2).symm
                exact fun σ' as' H' Hs' r' x' k' => hp σ' as' H' Hs' r' (x2.trans (x3.trans x')) (k2.trans k')
              | ret x =>
                obtain rfl : r = .ok (.ret x) η5 := (Option.some.inj e2).symm
                exact fun v σ' as' H' Hs' r' x' k' => hp v σ' as' H' Hs' r' (x2.trans (x3.trans x')) (k2.trans k')
            | exc c p η5 =>
              obtain rfl : r = .exc c p η5 := (Option.some.inj e2).symm
              exact fun u dx σ' as' H' Hs' r' hX x' k' => hp u dx σ' as' H' Hs' r' hX (x2.trans (x3.trans x')) (k2.trans k')
end
/-- keys and values gathered -/
def loopD (n : Nat) (vs : List Nat) (g : FG) (ft : FT) (fk fv : FO) : List Val → List Key → List D → FO
  | [], ks, ds, η => okR (.pend (.od ks (ds.map .sh))) η
  | y :: ys, ks, ds, η => match g y η with
    | none => none
    | some η1 => if η1.length = n then (match ft η1 with
      | some (.ok b η2) => if b = true then (match fk η2 with
          | some (.ok o η3) => (match esc1 o η3 with
            | some (.sh kd, η4) => (match keyOf kd with
              | some k => (match fv η4 with
                | some (.ok q η5) => (match esc1 q η5 with
                  | some (z, η6) => if ks.length < sizeLine then loopD n vs g ft fk fv ys (putKs k ks) (putVs k z.d ks ds) (wipeE η6 vs) else none
                  | none => none)
                | _ => none)
              | none => none)
            | _ => none)
          | _ => none)
        else loopD n vs g ft fk fv ys ks ds (wipeE η2 vs)
      | _ => none) else none
def fDc (n : Nat) (vs : List Nat) (f : FI) (g : FG) (ft : FT) (fk fv : FO) : FO := fun η => bindR (f η) fun ys η1 => if η1.length = n then loopD n vs g ft fk fv ys [] [] (wipeE η1 vs) else none
section
variable {M : Md} {S : Sc} {k : Nat} {W : WX} {X : Cx} {pos : Pos}
end
end Wp
end
section
set_option Elab.async false
set_option linter.all false
set_option maxRecDepth 100000
set_option maxHeartbeats 1000000
namespace Wp
open PySem PySem.Spec PyProof.Rows L2
/-- a shared list or tuple at a -/
def ShAt (G : Gc) (J : It) (a : Addr) (vs : List V) (Hs : Hp) : Prop := (J = Itl G.K a ∧ SqL G.K Hs a vs) ∨ (J = Itt G.K a ∧ SqT G.K Hs a vs)
theorem ShAt.le {G : Gc} {J : It} {a : Addr} {vs : List V} {Hs Hs' : Hp} (h : ShAt G J a vs Hs) (s : Le Hs Hs') : ShAt G J a vs Hs' := by
  rcases h with ⟨e, h⟩ | ⟨e, h⟩
  · exact .inl ⟨e, SqL.le h s⟩
  · exact .inr ⟨e, SqT.le h s⟩
theorem ShAt.go {G : Gc} {J : It} {a : Addr} {vs : List V} {Hs H : Hp} (h : ShAt G J a vs Hs) (s : Le Hs H) {i : Nat} (hi : i < vs.length) : J.go i H := by
  rcases h with ⟨rfl, h⟩ | ⟨rfl, h⟩
  · exact ⟨vs, vs[i], SqL.le h s, by rw [List.getElem?_eq_getElem hi]⟩
  · exact ⟨vs, vs[i], SqT.le h s, by rw [List.getElem?_eq_getElem hi]⟩
theorem ShAt.stop {G : Gc} {J : It} {a : Addr} {vs : List V} {Hs H : Hp} (h : ShAt G J a vs Hs) (s : Le Hs H) : J.stop vs.length H := by
  rcases h with ⟨rfl, h⟩ | ⟨rfl, h⟩
  · exact ⟨vs, SqL.le h s, Nat.le_refl _⟩
  · exact ⟨vs, SqT.le h s, Nat.le_refl _⟩
theorem ShAt.yld {G : Gc} {J : It} {a : Addr} {vs : List V} {Hs H H' : Hp} {i : Nat} {x : V} (h : ShAt G J a vs Hs) (s : Le Hs H) (y : J.yld i H x H') : H' = H ∧ vs[i]? = some x := by
  rcases h with ⟨rfl, h⟩ | ⟨rfl, h⟩
  · exact ⟨y.1, y.2 vs (SqL.le h s)⟩
  · exact ⟨y.1, y.2 vs (SqT.le h s)⟩
section
variable {M : Md} {S : Sc} {k : Nat} {W : WX} {X : Cx} {pos : Pos}
end
section
variable {M : Md} {S : Sc} {k : Nat} {W : WX} {X : Cx} {pos : Pos}
end
end Wp
end
section
set_option Elab.async false
set_option linter.all false
set_option maxRecDepth 100000
set_option maxHeartbeats 1000000
namespace Wp
open PySem PySem.Spec PyProof.Rows L2
section
open PySem.W PyProof.V PySem.Calls
variable {prog : Program} {w : World} {K : Type} [DecidableEq K] {knd : KeyKind prog w K} {A : Around} {E : Value → Shared → Prop} {s : Shared}
end
section
variable {X : Cx} {pins : List (Addr × Obj)} {σ : L2.St} {H : Hp} {s : Shared}
end
section
variable {X : Cx}
end
end Wp
end
section
set_option Elab.async false
set_option linter.all false
set_option maxRecDepth 100000
set_option maxHeartbeats 1000000
namespace Wp
open PySem PySem.Spec PyProof.Rows L2
section
variable {M : Md} {S : Sc} {k : Nat} {W : WX} {X : Cx} {kp : List Nat} {a b : Expr} {fa fb : FO} {pos : Pos}
def fLockS (i : Nat) (f : FS) : FS := fun η => match η[i]? with
  | some (some y) => if y.d.lockD = true then (match f (η.set i (some (.sh y.d))) with
      | some (.ok .next η') => okR .next η'
      | some (.ok (.ret x) η') => okR (.ret x) η'
      | _ => none) else none
  | _ => none
def fLockE (i : Nat) (f : FO) : FO := fun η => match η[i]? with
  | some (some y) => if y.d.lockD = true then (match f (η.set i (some (.sh y.d))) with
      | some (.ok o η') => okR o η'
      | _ => none) else none
  | _ => none
end
section
open PySem.Builtin
end
section
variable {M : Md} {S : Sc} {k : Nat} {W : WX} {X : Cx} {kp : List Nat} {a b : Expr} {fa fb : FO} {pos : Pos}
end
end Wp
end
section
set_option Elab.async false
set_option linter.all false
set_option maxRecDepth 100000
set_option maxHeartbeats 1000000
namespace Wp
open PySem PySem.Spec PyProof.Rows L2
def fDictS (ks : List Str) (fs : List FO) : FO := fun η => match flOf fs η with
  | some (.ok os η1) => (match argAll (List.replicate os.length false) os η1 with
    | some (xs, η2) => (match shAll xs with
      | some ds => if ks.length = ds.length ∧ ks.length ≤ 15 ∧ ndK (ks.map .inr) = true then okR (.pend (.od (ks.map .inr) (ds.map .sh))) η2 else none
      | none => none)
    | none => none)
  | _ => none
section
variable {M : Md} {S : Sc} {k : Nat} {W : WX} {X : Cx} {kp : List Nat} {pos p : Pos}
theorem e_dictS {ks : List Str} {fs : List FO} {η η1 η2 : Env} {os : List Opv} {xs : List Val} {ds : List D} (h : flOf fs η = some (.ok os η1)) (h2 : Lf (argAll (List.replicate os.length false) os η1 = some (xs, η2))) (h5 : Lf (shAll xs = some ds)) (h3 : Lf (ks.length = ds.length)) (h4 : Lf (decide (ks.length ≤ 15 ∧ ndK (ks.map .inr) = true) = true)) : fDictS ks fs η = some (.ok (.pend (.od (ks.map .inr) (ds.map .sh))) η2) := by
  unfold fDictS
  have h4 := of_decide_eq_true h4.h
  simp only [h, h2.h, h5.h, if_pos (show ks.length = ds.length ∧ ks.length ≤ 15 ∧ ndK (ks.map .inr) = true from ⟨h3.h, h4.1, h4.2⟩), okR]
end
end Wp
end
section
set_option Elab.async false
set_option linter.all false
set_option maxRecDepth 100000
set_option maxHeartbeats 1000000
namespace Wp
open PySem PySem.Spec PyProof.Rows L2
mutual
/-- nothing in it can change -/
def immT : D → Bool
  | .tup xs => immTs xs
  | d => immD d
def immTs : List D → Bool
  | [] => true
  | x :: xs => immT x && immTs xs
end
mutual
def ownV : Val → Bool
  | .sh d => immT d
  | .ol xs => ownVs xs
  | .ot xs => ownVs xs
  | .od _ xs => ownVs xs
  | .odt _ xs => ownVs xs
  | .oi _ _ xs => ownVs xs
def ownVs : List Val → Bool
  | [] => true
  | x :: xs => ownV x && ownVs xs
end
section
variable {G : Gc} {H H' Hs Hs2 : Hp}
mutual
theorem immT_any (s : Le Hs H) (tp : Tps H Hs2) : ∀ {d : D} {v : V}, immT d = true → RepD G Hs d v → RepD G Hs2 d v
  | .tup xs, v, h, r => by
    simp only [immT] at h
    simp only [RepD] at r ⊢
    obtain ⟨a, vs, h1, h2, h3⟩ := r
    exact ⟨a, vs, h1, tp a vs (s.keep h2 IsDO.tup), immTs_any s tp h h3⟩
  | .non, v, h, r => immD_any h r
  | .bl b, v, h, r => immD_any (d := .bl b) h r
  | .int i, v, h, r => immD_any (d := .int i) h r
  | .str x, v, h, r => immD_any (d := .str x) h r
  | .lst xs, v, h, r => immD_any (d := .lst xs) h r
  | .dict ks xs, v, h, r => immD_any (d := .dict ks xs) h r
  | .dt ks xs, v, h, r => immD_any (d := .dt ks xs) h r
  | .fn n, v, h, r => immD_any (d := .fn n) h r
  | .rng lo hi, v, h, r => immD_any (d := .rng lo hi) h r
  | .obj c fs xs, v, h, r => immD_any (d := .obj c fs xs) h r
theorem immTs_any (s : Le Hs H) (tp : Tps H Hs2) : ∀ {ds : List D} {vs : List V}, immTs ds = true → RepDs G Hs ds vs → RepDs G Hs2 ds vs
  | [], vs, _, r => by
    rw [RepDs.nil_iff] at r ⊢
    exact r
  | d :: ds, vs, h, r => by
    simp only [immTs, Bool.and_eq_true] at h
    obtain ⟨v, ws, rfl, p, q⟩ := r.uncons
    exact RepDs.cons (immT_any s tp h.1 p) (immTs_any s tp h.2 q)
end
mutual
theorem RepV.own (s : Le Hs H) (tp : Tps H Hs2) : ∀ {x : Val} {v : V} {as : List Addr}, ownV x = true → RepV G H Hs x v as → RepV G H Hs2 x v as
  | .sh d, v, as, h, r => by
    simp only [ownV] at h
    obtain ⟨rfl, rd⟩ := RepV.sh_iff.mp r
    exact RepV.sh_iff.mpr ⟨rfl, immT_any s tp h rd⟩
  | .ol xs, v, as, h, r => by
    simp only [ownV] at h
    simp only [RepV] at r ⊢
    obtain ⟨a, vs, bs, h1, h2, h3, q⟩ := r
    exact ⟨a, vs, bs, h1, h2, h3, RepVs.own s tp h q⟩
  | .ot xs, v, as, h, r => by
    simp only [ownV] at h
    simp only [RepV] at r ⊢
    obtain ⟨a, vs, h1, h2, q⟩ := r
    exact ⟨a, vs, h1, tp a vs (s.keep h2 IsDO.tup), RepVs.own s tp h q⟩
  | .od ks xs, v, as, h, r => by
    simp only [ownV] at h
    simp only [RepV] at r ⊢
    obtain ⟨a, vs, bs, h1, h2, h3, h4, q⟩ := r
    exact ⟨a, vs, bs, h1, h2, h3, h4, RepVs.own s tp h q⟩
  | .odt ks xs, v, as, h, r => by
    simp only [ownV] at h
    simp only [RepV] at r ⊢
    obtain ⟨a, vs, bs, h1, h2, h3, h4, q⟩ := r
    exact ⟨a, vs, bs, h1, h2, h3, h4, RepVs.own s tp h q⟩
  | .oi c fs xs, v, as, h, r => by
    simp only [ownV] at h
    simp only [RepV] at r ⊢
    obtain ⟨a, dx, vs, bs, h1, h2, h3, h4, h5, q⟩ := r
    exact ⟨a, dx, vs, bs, h1, h2, h3, h4, h5, RepVs.own s tp h q⟩
theorem RepVs.own (s : Le Hs H) (tp : Tps H Hs2) : ∀ {xs : List Val} {vs : List V} {as : List Addr}, ownVs xs = true → RepVs G H Hs xs vs as → RepVs G H Hs2 xs vs as
  | [], vs, as, _, r => by
    rw [RepVs.nil_iff] at r ⊢
    exact r
  | x :: xs, vs, as, h, r => by
    simp only [ownVs, Bool.and_eq_true] at h
    simp only [RepVs] at r ⊢
    obtain ⟨v, ws, a1, a2, h1, h2, p, q⟩ := r
    exact ⟨v, ws, a1, a2, h1, h2, RepV.own s tp h.1 p, RepVs.own s tp h.2 q⟩
end
end
/-- worked out beside: what comes back is new -/
def fView (f : FO) : FO := fun η => match f (sharE η) with
  | some (.ok (.pend z) _) => if ownV z = true then okR (.pend z) η else none
  | _ => none
section
variable {M : Md} {S : Sc} {k : Nat} {W : WX} {X : Cx} {kp : List Nat} {a b e : Expr} {es : List Expr} {fa fb : FO} {pos p : Pos} {x : Str}
theorem e_view {η η1 η2 : Env} {z : Val} (h0 : Lf (sharE η = η1)) (h : fa η1 = some (.ok (.pend z) η2)) (hi : Sz (ownV z = true)) : fView fa η = some (.ok (.pend z) η) := by
  unfold fView
  rw [h0.h, h]
  simp only [if_pos hi.h, okR]
def fClr (i : Nat) : FO := fun η => match η[i]? with
  | some (some (.od ks xs)) => (match shAll xs with
    | some _ => okR (.pend (.sh .non)) (η.set i (some (.od [] [])))
    | none => none)
  | _ => none
end
/-- x[j].clear(), x a list of dicts of its own, j a name -/
def fClrA (i j : Nat) : FO := fun η => match η[i]?, η[j]? with
  | some (some (.ol xs)), some (some (.sh (.int m))) => if 0 ≤ m then (match xs[m.toNat]? with
    | some (.od _ us) => (match shAll us with
      | some _ => okR (.pend (.sh .non)) (η.set i (some (.ol (xs.set m.toNat (.od [] [])))))
      | none => none)
    | _ => none) else none
  | _, _ => none
section
variable {M : Md} {S : Sc} {k : Nat} {W : WX} {X : Cx} {kp : List Nat} {a b e : Expr} {es : List Expr} {fa fb : FO} {pos p : Pos} {x : Str}
end
theorem e_clr {η η1 : Env} {i : Nat} {ks : List Key} {xs : List Val} {ds : List D} (h : Lf (η[i]? = some (some (.od ks xs)))) (h2 : Lf (shAll xs = some ds)) (h3 : Lf (η.set i (some (.od [] [])) = η1)) : fClr i η = some (.ok (.pend (.sh .non)) η1) := by
  unfold fClr
  simp only [h.h, h2.h, h3.h, okR]
theorem e_clrA {η η1 : Env} {i j : Nat} {xs us : List Val} {m : Int} {ks : List Key} {ds : List D} (h : Lf (η[i]? = some (some (.ol xs)))) (h2 : Lf (η[j]? = some (some (.sh (.int m))))) (h3 : Sz (0 ≤ m)) (h4 : Gp (xs[m.toNat]? = some (.od ks us))) (h5 : Lf (shAll us = some ds)) (h6 : Lf (η.set i (some (.ol (xs.set m.toNat (.od [] [])))) = η1)) : fClrA i j η = some (.ok (.pend (.sh .non)) η1) := by
  unfold fClrA
  simp only [h.h, h2.h, if_pos h3.h, h4.h, h5.h, h6.h, okR]
end Wp
end
section
set_option Elab.async false
set_option linter.all false
set_option maxRecDepth 100000
set_option maxHeartbeats 1000000
namespace Wp
open PySem PySem.Spec PyProof.Rows L2
section
variable {M : Md} {S : Sc} {k : Nat} {W : WX} {X : Cx} {a b c e : Expr} {es : List Expr} {fa fb fc : FO} {g : FL} {pos p : Pos} {x : Str}
end
end Wp
end
section
set_option Elab.async false
set_option linter.all false
set_option maxRecDepth 100000
set_option maxHeartbeats 1000000
namespace Wp
open PySem PySem.Spec PyProof.Rows L2
theorem mulOk_r {i j : Int} (h : j.natAbs < 2 ^ 64) : mulOk i j = true := by
  have : Builtin.Int.intBits j ≤ 64 := intBits_le h
  unfold mulOk
  have e : decide (Builtin.Int.intBits j > shortFactorBits) = false := decide_eq_false (by simp only [shortFactorBits]; omega)
  rw [e]
  simp
theorem atI_0 {α : Type} (x : α) (xs : List α) : atI (x :: xs) 0 = some x := by
  simp [atI, ixN]
theorem atI_1 {α : Type} (x y : α) (xs : List α) : atI (x :: y :: xs) 1 = some y := atI_nat (xs := x :: y :: xs) (j := 1) (v := y) rfl
theorem atI_2 {α : Type} (x y z : α) (xs : List α) : atI (x :: y :: z :: xs) 2 = some z := atI_nat (xs := x :: y :: z :: xs) (j := 2) (v := z) rfl
theorem atI_3 {α : Type} (x y z w : α) (xs : List α) : atI (x :: y :: z :: w :: xs) 3 = some w := atI_nat (xs := x :: y :: z :: w :: xs) (j := 3) (v := w) rfl
theorem ix4_0 : ixN 4 0 = some 0 := rfl
theorem ix4_2 : ixN 4 2 = some 2 := rfl
theorem log2_small {j : Int} {n : Nat} (h : j.natAbs < 2 ^ n) (hn : 0 < n) : j.natAbs.log2 < n := PySem.Flt.log2_lt_of hn h
theorem fmod_bd {i j : Int} (h : 0 < j) : 0 ≤ i.fmod j ∧ i.fmod j < j := ⟨Int.fmod_nonneg_of_pos _ h, Int.fmod_lt_of_pos _ h⟩
theorem bits_le {m : Int} {n : Nat} (h : m.natAbs < 2 ^ n) : Builtin.Int.intBits m ≤ n := intBits_le h
def pu (a b c e : Int) : Val := .ol [.sh (.int a), .sh (.int b), .sh (.int c), .sh (.int e)]
def mx1 (s t a : Int) : Int := (s * 69069 + 104729 * t * t + 7919 * a + t).fmod 2147483647
def mx2 (s t a : Int) : Int := (mx1 s t a * mx1 s t a + 40503).fmod 2147483629
def mixed (s t a : Int) : Int := (mx2 s t a * 48271).fmod 2147483587
/-- a purse of which at most so many numbers were drawn -/
def Pu (k : Nat) (p : List Val) : Prop := ∃ a b c e, Val.ol p = pu a b c e ∧ 0 ≤ a ∧ 0 ≤ c ∧ c ≤ 16 * (k : Int) ∧ 0 ≤ e ∧ e < 2 ^ 20
theorem Pu.mono {k m : Nat} {p : List Val} (h : Pu k p) (hm : k ≤ m) : Pu m p := by
  obtain ⟨a, b, c, e, h0, h1, h2, h3, h4, h5⟩ := h
  exact ⟨a, b, c, e, h0, h1, h2, by omega, h4, h5⟩
abbrev iv (ns : List Int) : Val := .ol ((ns.map D.int).map .sh)
theorem atI_get {α : Type} {ns : List α} {i : Int} (h0 : 0 ≤ i) (h1 : i < ns.length) : ∃ n, atI ns i = some n ∧ n ∈ ns ∧ ns[i.toNat]? = some n := by
  obtain ⟨j, rfl⟩ := Int.eq_ofNat_of_zero_le h0
  have hj : j < ns.length := by omega
  refine ⟨ns[j], atI_nat (by rw [List.getElem?_eq_getElem hj]), List.getElem_mem hj, ?_⟩
  rw [Int.toNat_natCast, List.getElem?_eq_getElem hj]
theorem atI_end {α : Type} {xs : List α} {l : α} (h : xs.getLast? = some l) : atI xs (-1) = some l := by
  obtain ⟨ys, rfl⟩ := List.getLast?_eq_some_iff.mp h
  exact atI_last _ _
theorem ds_sh (ds : List D) : Val.ds (ds.map .sh) = ds := by simp [Val.ds_map, Function.comp_def, Val.d]
theorem filter_ff {α : Type} (l : List α) : l.filter (fun _ => false) = [] := by simp
theorem filter_tt {α : Type} (l : List α) : l.filter (fun _ => true) = l := by simp
theorem small62_of {n : Int} (h0 : 0 ≤ n) (h1 : n < 2 ^ 40) : small62 n = true := by
  unfold small62
  exact decide_eq_true (by omega)
theorem loop_from {gt : FG} {body : FS} (P : Nat → Env → Prop) : ∀ (ys : List Val) (j : Nat) (η : Env), (∀ (i : Nat) (y : Val) (η : Env), ys[i]? = some y → P (j + i) η → ∃ η1 η2, gt y η = some η1 ∧ body η1 = some (.ok .next η2) ∧ P (j + i + 1) η2) → P j η →
    ∃ η', loopF gt body ys η = some (.ok .next η') ∧ P (j + ys.length) η'
  | [], j, η, _, h => ⟨η, rfl, h⟩
  | y :: ys, j, η, k, h => by
    obtain ⟨η1, η2, h1, h2, h3⟩ := k 0 y η rfl h
    obtain ⟨η', h4, h5⟩ := loop_from P ys (j + 1) η2 (fun i y θ e q => by
      have := k (i + 1) y θ (by simpa using e) (by rwa [show j + (i + 1) = j + 1 + i by omega])
      rwa [show j + (i + 1) + 1 = j + 1 + i + 1 by omega] at this) h3
    refine ⟨η', ?_, by rwa [List.length_cons, show j + (ys.length + 1) = j + 1 + ys.length by omega]⟩
    simp only [loopF, h1, h2]
    exact h4
theorem loop_cnt {gt : FG} {body : FS} (P : Nat → Env → Prop) {ys : List Val} {η : Env} (h0 : P 0 η) (h : ∀ (i : Nat) (y : Val) (η : Env), ys[i]? = some y → P i η → ∃ η1 η2, gt y η = some η1 ∧ body η1 = some (.ok .next η2) ∧ P (i + 1) η2) :
    ∃ η', loopF gt body ys η = some (.ok .next η') ∧ P ys.length η' := by
  have := loop_from P ys 0 η (fun i y θ e q => by
    have := h i y θ e (by rwa [Nat.zero_add] at q)
    rwa [Nat.zero_add]) h0
  rwa [Nat.zero_add] at this
theorem loopC_from {n : Nat} {vs : List Nat} {gt : FG} {ft : FT} {fe : FO} (P : Nat → List Val → Env → Prop) : ∀ (ys : List Val) (j : Nat) (acc : List Val) (η : Env), acc.length + ys.length < sizeLine →
    (∀ (i : Nat) (y : Val) (acc : List Val) (η : Env), ys[i]? = some y → P (j + i) acc η → ∃ ηa ηb ηc ηd o z, gt y η = some ηa ∧ ηa.length = n ∧ ft ηa = some (.ok true ηb) ∧ fe ηb = some (.ok o ηc) ∧ esc1 o ηc = some (z, ηd) ∧ P (j + i + 1) (acc ++ [z]) (wipeE ηd vs)) → P j acc η →
    ∃ acc' η', loopC n vs gt ft fe ys acc η = some (.ok (.pend (.ol acc')) η') ∧ P (j + ys.length) acc' η'
  | [], j, acc, η, _, _, h => ⟨acc, η, rfl, h⟩
  | y :: ys, j, acc, η, hl, k, h => by
    obtain ⟨ηa, ηb, ηc, ηd, o, z, h1, h2, h3, h4, h5, h6⟩ := k 0 y acc η rfl h
    simp only [List.length_cons] at hl
    obtain ⟨acc', η', h7, h8⟩ := loopC_from P ys (j + 1) (acc ++ [z]) _ (by simp; omega) (fun i y ac θ e q => by
      have := k (i + 1) y ac θ (by simpa using e) (by rwa [show j + (i + 1) = j + 1 + i by omega])
      rwa [show j + (i + 1) + 1 = j + 1 + i + 1 by omega] at this) h6
    refine ⟨acc', η', ?_, by rwa [List.length_cons, show j + (ys.length + 1) = j + 1 + ys.length by omega]⟩
    simp only [loopC, h1, h2, if_true, h3, h4, h5]
    rw [if_pos (by omega)]
    exact h7
/-- a comprehension step by step -/
theorem lc_cnt {n : Nat} {vs : List Nat} {it : FI} {gt : FG} {ft : FT} {fe : FO} (P : Nat → List Val → Env → Prop) {ys : List Val} {η η1 : Env} (hi : it η = some (.ok ys η1)) (hn : η1.length = n) (hs : ys.length < sizeLine) (h0 : P 0 [] (wipeE η1 vs))
    (h : ∀ (i : Nat) (y : Val) (acc : List Val) (η : Env), ys[i]? = some y → P i acc η → ∃ ηa ηb ηc ηd o z, gt y η = some ηa ∧ ηa.length = n ∧ ft ηa = some (.ok true ηb) ∧ fe ηb = some (.ok o ηc) ∧ esc1 o ηc = some (z, ηd) ∧ P (i + 1) (acc ++ [z]) (wipeE ηd vs)) :
    ∃ acc' η', fLc n vs it gt ft fe η = some (.ok (.pend (.ol acc')) η') ∧ P ys.length acc' η' := by
  obtain ⟨acc', η', h1, h2⟩ := loopC_from P ys 0 [] (wipeE η1 vs) (by simpa using hs) (fun i y ac θ e q => by
    have := h i y ac θ e (by rwa [Nat.zero_add] at q)
    rwa [Nat.zero_add]) h0
  refine ⟨acc', η', ?_, by rwa [Nat.zero_add] at h2⟩
  unfold fLc
  rw [hi, bindR_some, if_pos hn, h1]
mutual
def D.plain : D → Bool
  | .non => true
  | .bl _ => false
  | .int _ => true
  | .str x => PyData.strOk x
  | .tup xs => D.plains xs
  | .lst xs => D.plains xs
  | .dict _ _ => false
  | .dt _ _ => false
  | .fn _ => false
  | .rng _ _ => false
  | .obj _ _ _ => false
def D.plains : List D → Bool
  | [] => true
  | x :: xs => x.plain && D.plains xs
end
mutual
def D.dp : D → Nat
  | .tup xs => D.dps xs + 1
  | .lst xs => D.dps xs + 1
  | .non => 0
  | .bl _ => 0
  | .int _ => 0
  | .str _ => 0
  | .dict _ _ => 0
  | .dt _ _ => 0
  | .fn _ => 0
  | .rng _ _ => 0
  | .obj _ _ _ => 0
def D.dps : List D → Nat
  | [] => 0
  | x :: xs => max x.dp (D.dps xs)
end
mutual
/-- plain data: what they become, and when two are equal -/
theorem toPy_plain : ∀ {d : D}, d.plain = true → ∃ p, toPy d = some p ∧ p.canLay0 = true ∧ p.depth = d.dp
  | .non, _ => ⟨.none, rfl, rfl, by simp [PyData.depth, D.dp]⟩
  | .bl _, h => by simp [D.plain] at h
  | .int i, _ => ⟨.int i, rfl, by simp [PyData.canLay0], by simp [PyData.depth, D.dp]⟩
  | .str x, h => ⟨.str x, rfl, by simpa [PyData.canLay0, D.plain] using h, by simp [PyData.depth, D.dp]⟩
  | .tup xs, h => by
    obtain ⟨ps, e, h1, h2⟩ := toPys_plain (ds := xs) (by simpa [D.plain] using h)
    exact ⟨.tuple ps, by simp [toPy, e], by simpa [PyData.canLay0] using h1, by simp [PyData.depth, D.dp, h2]⟩
  | .lst xs, h => by
    obtain ⟨ps, e, h1, h2⟩ := toPys_plain (ds := xs) (by simpa [D.plain] using h)
    exact ⟨.list ps, by simp [toPy, e], by simpa [PyData.canLay0] using h1, by simp [PyData.depth, D.dp, h2]⟩
  | .dict _ _, h => by simp [D.plain] at h
  | .dt _ _, h => by simp [D.plain] at h
  | .fn _, h => by simp [D.plain] at h
  | .rng _ _, h => by simp [D.plain] at h
  | .obj _ _ _, h => by simp [D.plain] at h
theorem toPys_plain : ∀ {ds : List D}, D.plains ds = true → ∃ ps, toPys ds = some ps ∧ PyData.canLayAll0 ps = true ∧ PyData.depthAll ps = D.dps ds
  | [], _ => ⟨[], rfl, by simp [PyData.canLayAll0], by simp [PyData.depthAll, D.dps]⟩
  | x :: xs, h => by
    simp only [D.plains, Bool.and_eq_true] at h
    obtain ⟨p, e, h1, h2⟩ := toPy_plain h.1
    obtain ⟨ps, e', h3, h4⟩ := toPys_plain h.2
    exact ⟨p :: ps, by simp [toPys, e, e'], by simp [PyData.canLayAll0, h1, h3], by simp [PyData.depthAll, D.dps, h2, h4]⟩
end
mutual
theorem eqv_plain : ∀ {d e : D} {p q : PyData}, d.plain = true → e.plain = true → toPy d = some p → toPy e = some q → (PyData.eqv p q = true ↔ d = e)
  | .non, e, p, q, _, he, h1, h2 => by
    obtain rfl : PyData.none = p := by simpa [toPy] using h1
    cases e <;> simp [D.plain] at he <;> simp [toPy] at h2 <;> first | (subst h2; simp [PyData.eqv]; done) | (obtain ⟨_, _, rfl⟩ := h2; simp [PyData.eqv])
  | .bl _, _, _, _, h, _, _, _ => by simp [D.plain] at h
  | .int i, e, p, q, _, he, h1, h2 => by
    obtain rfl : PyData.int i = p := by simpa [toPy] using h1
    cases e <;> simp [D.plain] at he <;> simp [toPy] at h2 <;> first | (subst h2; simp [PyData.eqv]; done) | (obtain ⟨_, _, rfl⟩ := h2; simp [PyData.eqv])
  | .str x, e, p, q, _, he, h1, h2 => by
    obtain rfl : PyData.str x = p := by simpa [toPy] using h1
    cases e <;> simp [D.plain] at he <;> simp [toPy] at h2 <;> first | (subst h2; simp [PyData.eqv]; done) | (obtain ⟨_, _, rfl⟩ := h2; simp [PyData.eqv])
  | .tup xs, e, p, q, hd, he, h1, h2 => by
    simp only [toPy, Option.map_eq_some_iff] at h1
    obtain ⟨ps, e1, rfl⟩ := h1
    cases e with
    | tup ys =>
      simp only [toPy, Option.map_eq_some_iff] at h2
      obtain ⟨qs, e2, rfl⟩ := h2
      simp only [PyData.eqv, D.tup.injEq]
      exact eqvs_plain (by simpa [D.plain] using hd) (by simpa [D.plain] using he) e1 e2
    | _ => simp [D.plain] at he <;> simp [toPy] at h2 <;> first | (subst h2; simp [PyData.eqv]; done) | (obtain ⟨_, _, rfl⟩ := h2; simp [PyData.eqv])
  | .lst xs, e, p, q, hd, he, h1, h2 => by
    simp only [toPy, Option.map_eq_some_iff] at h1
    obtain ⟨ps, e1, rfl⟩ := h1
    cases e with
    | lst ys =>
      simp only [toPy, Option.map_eq_some_iff] at h2
      obtain ⟨qs, e2, rfl⟩ := h2
      simp only [PyData.eqv, D.lst.injEq]
      exact eqvs_plain (by simpa [D.plain] using hd) (by simpa [D.plain] using he) e1 e2
    | _ => simp [D.plain] at he <;> simp [toPy] at h2 <;> first | (subst h2; simp [PyData.eqv]; done) | (obtain ⟨_, _, rfl⟩ := h2; simp [PyData.eqv])
  | .dict _ _, _, _, _, h, _, _, _ => by simp [D.plain] at h
  | .dt _ _, _, _, _, h, _, _, _ => by simp [D.plain] at h
  | .fn _, _, _, _, h, _, _, _ => by simp [D.plain] at h
  | .rng _ _, _, _, _, h, _, _, _ => by simp [D.plain] at h
  | .obj _ _ _, _, _, _, h, _, _, _ => by simp [D.plain] at h
theorem eqvs_plain : ∀ {ds es : List D} {ps qs : List PyData}, D.plains ds = true → D.plains es = true → toPys ds = some ps → toPys es = some qs → (PyData.eqvAll ps qs = true ↔ ds = es)
  | [], [], ps, qs, _, _, h1, h2 => by
    simp [toPys] at h1 h2
    subst h1 h2
    simp [PyData.eqvAll]
  | [], y :: ys, ps, qs, _, _, h1, h2 => by
    simp [toPys, Option.bind_eq_some_iff] at h1 h2
    obtain ⟨q, _, qs', _, rfl⟩ := h2
    subst h1
    simp [PyData.eqvAll]
  | x :: xs, [], ps, qs, _, _, h1, h2 => by
    simp [toPys, Option.bind_eq_some_iff] at h1 h2
    obtain ⟨q, _, qs', _, rfl⟩ := h1
    subst h2
    simp [PyData.eqvAll]
  | x :: xs, y :: ys, ps, qs, hd, he, h1, h2 => by
    simp [toPys, Option.bind_eq_some_iff] at h1 h2
    obtain ⟨p, a1, ps', a2, rfl⟩ := h1
    obtain ⟨q, b1, qs', b2, rfl⟩ := h2
    simp only [D.plains, Bool.and_eq_true] at hd he
    simp only [PyData.eqvAll, Bool.and_eq_true, List.cons.injEq]
    rw [eqv_plain hd.1 he.1 a1 b1, eqvs_plain hd.2 he.2 a2 b2]
end
open Classical in
theorem eqC_plain {d e : D} (hd : d.plain = true) (he : e.plain = true) (h1 : d.dp ≤ 60) (h2 : e.dp ≤ 60) : eqC d e = some (decide (d = e)) := by
  obtain ⟨p, a1, a2, a3⟩ := toPy_plain hd
  obtain ⟨q, b1, b2, b3⟩ := toPy_plain he
  have key : ((toPy d).bind fun p => (toPy e).bind fun q => if SeqAt.shaped p && SeqAt.shaped q then some (PyData.eqv p q) else none) = some (decide (d = e)) := by
    rw [a1, b1, Option.bind_some, Option.bind_some]
    have s1 : SeqAt.shaped p = true := by simp [SeqAt.shaped, a2, a3]; omega
    have s2 : SeqAt.shaped q = true := by simp [SeqAt.shaped, b2, b3]; omega
    rw [s1, s2, Bool.and_self, if_pos rfl]
    congr 1
    rw [Bool.eq_iff_iff, eqv_plain hd he a1 b1, decide_eq_true_iff]
  unfold eqC
  split <;> first | exact key | (simp; done) | skip
theorem eqC_same {d : D} (hd : d.plain = true) (h1 : d.dp ≤ 60) : eqC d d = some true := by
  classical
  rw [eqC_plain hd hd h1 h1, decide_eq_true rfl]
theorem gEq_same {d : D} (hd : d.plain = true) (h1 : d.dp ≤ 60) : gEq d d = some (.sh (.bl true)) := by
  unfold gEq
  rw [eqC_same hd h1]
  rfl
theorem gNe_same {d : D} (hd : d.plain = true) (h1 : d.dp ≤ 60) : gNe d d = some (.sh (.bl false)) := by
  unfold gNe
  rw [eqC_same hd h1]
  rfl
theorem gEq_ne {d e : D} (hd : d.plain = true) (he : e.plain = true) (h1 : d.dp ≤ 60) (h2 : e.dp ≤ 60) (h : d ≠ e) : gEq d e = some (.sh (.bl false)) := by
  classical
  unfold gEq
  rw [eqC_plain hd he h1 h2, decide_eq_false h]
  rfl
theorem gEq_nil : gEq (.lst []) (.lst []) = some (.sh (.bl true)) := gEq_same rfl (by simp [D.dp, D.dps])
theorem gNe_nil : gNe (.lst []) (.lst []) = some (.sh (.bl false)) := gNe_same rfl (by simp [D.dp, D.dps])
theorem gEq_int (i j : Int) : gEq (.int i) (.int j) = some (.sh (.bl (decide (i = j)))) := rfl
theorem gNe_int (i j : Int) : gNe (.int i) (.int j) = some (.sh (.bl (!decide (i = j)))) := rfl
theorem gEq_str (i j : Str) : gEq (.str i) (.str j) = some (.sh (.bl (decide (i = j)))) := rfl
theorem gNe_str (i j : Str) : gNe (.str i) (.str j) = some (.sh (.bl (!decide (i = j)))) := rfl
theorem take_min {α : Type} (xs : List α) (j : Nat) : xs.take (min j xs.length) = xs.take j := by
  rcases Nat.le_total j xs.length with h | h
  · rw [Nat.min_eq_left h]
  · rw [Nat.min_eq_right h, List.take_length, List.take_of_length_le h]
theorem cut_to {xs : List D} {j : Int} (h0 : 0 ≤ j) : Wp.cutD xs none (some j) = xs.take j.toNat := by
  obtain ⟨j, rfl⟩ := Int.eq_ofNat_of_zero_le h0
  unfold Wp.cutD
  rw [HT.sIx_nat]
  show (xs.drop 0).take (min j xs.length - 0) = _
  rw [List.drop_zero, Nat.sub_zero, take_min, Int.toNat_natCast]
theorem gSl_to {xs : List D} {j : Int} (h0 : 0 ≤ j) : gSl none (some j) (.lst xs) = some (.ol ((xs.take j.toNat).map .sh)) := by
  show some (Val.ol ((Wp.cutD xs none (some j)).map .sh)) = _
  rw [cut_to h0]
theorem gLt_t {i j : Int} (h : i < j) : gCmp (cmpF .Lt) (.int i) (.int j) = some (.sh (.bl true)) := by
  show some (Val.sh (.bl (decide (i < j)))) = _
  rw [decide_eq_true h]
theorem gLt_f {i j : Int} (h : ¬ (i < j)) : gCmp (cmpF .Lt) (.int i) (.int j) = some (.sh (.bl false)) := by
  show some (Val.sh (.bl (decide (i < j)))) = _
  rw [decide_eq_false h]
theorem gGt_t {i j : Int} (h : j < i) : gCmp (cmpF .Gt) (.int i) (.int j) = some (.sh (.bl true)) := by
  show some (Val.sh (.bl (decide (j < i)))) = _
  rw [decide_eq_true h]
theorem gGt_f {i j : Int} (h : ¬ (j < i)) : gCmp (cmpF .Gt) (.int i) (.int j) = some (.sh (.bl false)) := by
  show some (Val.sh (.bl (decide (j < i)))) = _
  rw [decide_eq_false h]
theorem gEq_t {i j : Int} (h : i = j) : gEq (.int i) (.int j) = some (.sh (.bl true)) := by rw [gEq_int, decide_eq_true h]
theorem gNe_f {i j : Int} (h : i = j) : gNe (.int i) (.int j) = some (.sh (.bl false)) := by rw [gNe_int, decide_eq_true h]; rfl
theorem gEqS_t {i j : Str} (h : i = j) : gEq (.str i) (.str j) = some (.sh (.bl true)) := by rw [gEq_str, decide_eq_true h]
theorem gEqS_f {i j : Str} (h : i ≠ j) : gEq (.str i) (.str j) = some (.sh (.bl false)) := by rw [gEq_str, decide_eq_false h]
theorem gNeS_t {i j : Str} (h : i ≠ j) : gNe (.str i) (.str j) = some (.sh (.bl true)) := by rw [gNe_str, decide_eq_false h]; rfl
theorem gNeS_f {i j : Str} (h : i = j) : gNe (.str i) (.str j) = some (.sh (.bl false)) := by rw [gNe_str, decide_eq_true h]; rfl
end Wp
end
section
set_option Elab.async false
set_option linter.all false
set_option maxRecDepth 100000
set_option maxHeartbeats 1000000
namespace Wp
open PySem PySem.Spec PyProof.Rows L2
section
variable {M : Md} {S : Sc} {k : Nat} {W : WX} {X : Cx} {kp : List Nat} {a b e : Expr} {fa fb : FO} {pos p : Pos} {x : Str}
end
structure DcI (gt : FG) (fk fv : FO) (n : Nat) (vs : List Nat) (η : Env) (y : Val) (k : Key) (d : D) : Prop where
  h : ∃ ηa o ηb kd ηc q ηd z ηe, gt y η = some ηa ∧ ηa.length = n ∧ fk ηa = some (.ok o ηb) ∧ esc1 o ηb = some (.sh kd, ηc) ∧ keyOf kd = some k ∧ fv ηc = some (.ok q ηd) ∧ esc1 q ηd = some (z, ηe) ∧ z.d = d ∧ wipeE ηe vs = η
theorem DcI.mk' {gt : FG} {fk fv : FO} {n : Nat} {vs : List Nat} {η ηa ηb ηc ηd ηe : Env} {y z : Val} {k k' : Key} {d d' kd : D} {o q : Opv} (h1 : Lf (gt y η = some ηa)) (h2 : Lf (ηa.length = n)) (h3 : fk ηa = some (.ok o ηb)) (h4 : Lf (esc1 o ηb = some (.sh kd, ηc))) (h5 : Lf (keyOf kd = some k')) (h6 : fv ηc = some (.ok q ηd)) (h7 : Lf (esc1 q ηd = some (z, ηe))) (h8 : Lf (z.d = d')) (h9 : Lf (wipeE ηe vs = η)) (h10 : k' = k) (h11 : d' = d) : DcI gt fk fv n vs η y k d := by
  subst h10 h11
  exact ⟨_, _, _, _, _, _, _, _, _, h1.h, h2.h, h3, h4.h, h5.h, h6, h7.h, h8.h, h9.h⟩
theorem putKs_nd {α : Type} {R : List α} {x : α} (key : α → Key) (h : ((R ++ [x]).map key).Nodup) : putKs (key x) (R.map key) = (R ++ [x]).map key := by
  unfold putKs
  have : ((R.map key).any fun k' => decide (k' = key x)) = false := by
    rw [List.any_eq_false]
    intro k hk e
    rw [List.map_append, List.nodup_append] at h
    exact h.2.2 k hk (key x) (by simp) (by simpa using e)
  rw [this]
  simp
theorem putVs_nd {α : Type} {R : List α} {x : α} (key : α → Key) (val : α → D) (h : ((R ++ [x]).map key).Nodup) : putVs (key x) (val x) (R.map key) (R.map val) = (R ++ [x]).map val := by
  unfold putVs
  have : ((R.map key).any fun k' => decide (k' = key x)) = false := by
    rw [List.any_eq_false]
    intro k hk e
    rw [List.map_append, List.nodup_append] at h
    exact h.2.2 k hk (key x) (by simp) (by simpa using e)
  rw [this]
  simp
theorem loopD_map {α : Type} {gt : FG} {fk fv : FO} {n : Nat} {vs : List Nat} {η : Env} {e : α → Val} (key : α → Key) (val : α → D) : ∀ (xs R : List α), ((R ++ xs).map key).Nodup → R.length + xs.length < sizeLine → (∀ x ∈ xs, DcI gt fk fv n vs η (e x) (key x) (val x)) →
    loopD n vs gt fYes fk fv (xs.map e) (R.map key) (R.map val) η = some (.ok (.pend (.od ((R ++ xs).map key) (((R ++ xs).map val).map .sh))) η)
  | [], R, _, _, _ => by simp [loopD, okR]
  | x :: xs, R, nd, hl, h => by
    obtain ⟨ηa, o, ηb, kd, ηc, q, ηd, z, ηe, h1, h2, h3, h4, h5, h6, h7, h8, h9⟩ := (h x (List.mem_cons_self ..)).h
    simp only [List.length_cons] at hl
    have nd2 : ((R ++ [x]).map key).Nodup := by
      have : (R ++ [x]).Sublist (R ++ x :: xs) := List.Sublist.append (List.Sublist.refl _) (by simp)
      exact nd.sublist (this.map key)
    have hy : fYes ηa = some (.ok true ηa) := rfl
    simp only [List.map_cons, loopD, h1, h2, if_true, hy, h3, h4, h5, h6, h7, h8, List.length_map, if_pos (show R.length < sizeLine by omega), h9]
    rw [putKs_nd key nd2, putVs_nd key val nd2]
    have := loopD_map key val xs (R ++ [x]) (by simpa using nd) (by simp only [List.length_append, List.length_cons, List.length_nil]; omega) fun y hy => h y (List.mem_cons_of_mem _ hy)
    simpa using this
theorem e_dcY {α : Type} {it : FI} {gt : FG} {fk fv : FO} {n : Nat} {vs : List Nat} {η η1 η2 : Env} {ys : List Val} {xs : List α} {ev : α → Val} {key : α → Key} {val : α → D} (h : it η = some (.ok ys η1)) (hx : Ys ys xs ev) (h2 : Lf (η1.length = n)) (h3 : Lf (wipeE η1 vs = η2)) (hs : Sz (xs.length < sizeLine)) (nd : Sz ((xs.map key).Nodup))
    (hb : ∀ x, x ∈ xs → DcI gt fk fv n vs η2 (ev x) (key x) (val x)) : fDc n vs it gt fYes fk fv η = some (.ok (.pend (.od (xs.map key) ((xs.map val).map .sh))) η2) := by
  unfold fDc
  have hs := hs.h
  rw [h, bindR_some, if_pos h2.h, h3.h, hx.h]
  have := loopD_map key val xs [] (by simpa using nd.h) (by simp; omega) hb
  simpa using this
end Wp
end
section
set_option Elab.async false
set_option linter.all false
set_option maxRecDepth 100000
set_option maxHeartbeats 1000000
namespace Wp
open PySem PySem.Spec PyProof.Rows L2
section
variable {M : Md} {S : Sc} {k : Nat} {W : WX} {X : Cx} {a b : Expr} {fa fb : FO} {pos : Pos}
end
end Wp
end
section
set_option Elab.async false
set_option linter.all false
set_option maxRecDepth 100000
set_option maxHeartbeats 1000000
namespace Wp
open PySem PySem.Spec PyProof.Rows L2
section
variable {M : Md} {S : Sc} {k : Nat} {W : WX} {X : Cx} {a : Expr} {g : FL} {pos p : Pos} {x : Str}
end
end Wp
end
section
set_option Elab.async false
set_option linter.all false
set_option maxRecDepth 100000
set_option maxHeartbeats 1000000
namespace Wp
open PySem PySem.Spec PyProof.Rows L2
section
variable {M : Md} {S : Sc} {k : Nat} {W : WX} {X : Cx} {pos p : Pos} {x : Str}
end
end Wp
end
section
set_option Elab.async false
set_option linter.all false
set_option maxRecDepth 100000
set_option maxHeartbeats 1000000
namespace Wp
open PySem PySem.Spec PyProof.Rows L2
def Val.isD : Val → Bool
  | .sh (.dict _ _) => true
  | .od _ _ => true
  | _ => false
def Opv.isD (o : Opv) (η : Env) : Bool := match o with
  | .pend x => x.isD
  | .slot i => match η[i]? with
    | some (some x) => x.isD
    | _ => false
theorem Val.isD_ok {G : Gc} {H Hs : Hp} {x : Val} {v : V} {as : List Addr} (h : RepV G H Hs x v as) (s : Le Hs H) (e : x.isD = true) : ∃ a, v = .ref a ∧ IsD H a := by
  cases x with
  | sh d =>
    cases d with
    | dict ks xs =>
      obtain ⟨_, rd⟩ := RepV.sh_iff.mp h
      obtain ⟨a, vs, e1, e2, _⟩ := rd.top s
      exact ⟨a, e1, .inl ⟨_, e2⟩⟩
    | _ => cases e
  | od ks xs =>
    simp only [RepV] at h
    obtain ⟨a, vs, bs, e1, _, e2, _⟩ := h
    exact ⟨a, e1, .inl ⟨_, .inl e2⟩⟩
  | _ => cases e
theorem Opv.isD_ok {G : Gc} {H Hs : Hp} {o : Opv} {η : Env} {σ : L2.St} {v : V} {as : List Addr} (h : Rep G (o.p :: η) (some v :: σ) as H Hs) (l : o.lnk σ v) (e : o.isD η = true) : ∃ a, v = .ref a ∧ IsD H a := by
  cases o with
  | pend x =>
    obtain ⟨w, σ', a1, a2, e1, rfl, p, q⟩ := h.env
    obtain ⟨e2, rfl⟩ := List.cons.inj e1
    obtain rfl : v = w := Option.some.inj e2
    exact Val.isD_ok p h.le e
  | slot i =>
    simp only [Opv.isD] at e
    cases ei : η[i]? with
    | none =>
      rw [ei] at e
      cases e
    | some y =>
      cases y with
      | none =>
        rw [ei] at e
        cases e
      | some x =>
        rw [ei] at e
        obtain ⟨as1, r1, _⟩ := h.pop
        obtain ⟨u, a1, a2, a3, eu, _, ru, _⟩ := r1.env.at ei
        have l' : σ[i]? = some (some v) := l
        rw [l'] at eu
        have ev : v = u := by simpa using eu
        subst ev
        exact Val.isD_ok ru h.le e
def gGet : List D → Option Val
  | [.dict ks vs, k, e] => if immD e = true then (keyOf k).map fun k => .sh ((dget k ks vs).getD e) else none
  | _ => none
def fGet (fa fb fc : FO) : FO := fun η => bindR (fa η) fun o η1 => if o.isD η1 = true then bindR (fb η1) fun p η2 => bindR (fc η2) fun q η3 => appR gGet [o, p, q] η3 else none
section
variable {M : Md} {S : Sc} {k : Nat} {W : WX} {X : Cx} {kp : List Nat} {a b c e : Expr} {fa fb fc : FO} {pos p : Pos} {x : Str}
theorem e_get {η η1 η2 η3 η4 : Env} {o q r : Opv} {d k e : D} {z : Val} (h1 : fa η = some (.ok o η1)) (h0 : Lf (o.isD η1 = true)) (h2 : fb η1 = some (.ok q η2)) (h3 : fc η2 = some (.ok r η3)) (h4 : Lf (prepAll [o, q, r] η3 = some ([d, k, e], η4))) (h5 : Gp (gGet [d, k, e] = some z)) : fGet fa fb fc η = some (.ok (.pend z) η4) := by
  unfold fGet appR
  simp only [h1, bindR_some, h0.h, if_true, h2, h3, h4.h, h5.h, okR]
def fItems (i : Nat) : FO := fun η => match η[i]? with
  | some (some (.od ks xs)) => (match shAll xs with
    | some ds => okR (.pend (.ol ((ks.zip ds).map fun q => .sh (.tup [keyD q.1, q.2])))) η
    | none => none)
  | _ => none
end
theorem e_items {η : Env} {i : Nat} {ks : List Key} {xs : List Val} {ds : List D} {zs : List Val} (h : Lf (η[i]? = some (some (.od ks xs)))) (h2 : Lf (shAll xs = some ds)) (h3 : Lf (((ks.zip ds).map fun q => Val.sh (.tup [keyD q.1, q.2])) = zs)) : fItems i η = some (.ok (.pend (.ol zs)) η) := by
  unfold fItems
  simp only [h.h, h2.h, h3.h, okR]
end Wp
end
section
set_option Elab.async false
set_option linter.all false
set_option maxRecDepth 100000
set_option maxHeartbeats 1000000
namespace Wp
open PySem PySem.Spec PyProof.Rows L2
section
variable {M : Md} {S : Sc} {k : Nat} {W : WX} {X : Cx} {pos p : Pos} {x : Str}
end
end Wp
end
section
set_option Elab.async false
set_option linter.all false
set_option maxRecDepth 100000
namespace Wp
open PySem PySem.Spec PyProof.Rows L2
section
variable {η η0 η1 η2 η3 η4 : Env} {o p : Opv} {os : List Opv} {fa : FO} {g : FL} {x y z : Val} {xs xs2 : List Val} {n na : Nat} {F : FF} {ms : List Bool} {θ : Env}
theorem e_methD {mt : Nat → Option Fi} {m : Str} {c : Nat} {fs : List Str} {df dv : List D} (ho : fa η = some (.ok o η1)) (hc : Lf (o.cls η1 = some (c, fs))) (hm : Lf ((decide (m ∈ fs)) = false)) (hi : Lf (mt c = some ⟨F, n, ms, df⟩))
    (hg : g η1 = some (.ok os η2)) (ha : Lf (argAll ms (o :: os) η2 = some (xs, η3))) (hn : Lf (os.length = na)) (hd : Lf ((⟨F, n, ms, df⟩ : Fi).dv (na + 1) = dv)) (hn2 : Lf ((o :: os).length + dv.length = n)) (hx : Lf (xs ++ dv.map .sh = xs2))
    (hF : F xs2 = some (.ok x θ)) (hb : Lf (backAll (o :: os) θ η3 = η4)) : fMeth mt m na fa g η = some (.ok (.pend x) η4) := by
  unfold fMeth
  rw [ho, bindR_some]
  simp only [hc.h]
  rw [if_neg (of_decide_eq_false hm.h)]
  simp only [hi.h, hg, bindR_some, if_pos hn.h, hd.h]
  unfold callR
  rw [ha.h]
  simp only [hn2.h, if_true, hx.h, hF, hb.h]
end
end Wp
end
section
set_option Elab.async false
set_option linter.all false
set_option maxRecDepth 100000
set_option maxHeartbeats 1000000
namespace Wp
open PySem PySem.Spec PyProof.Rows L2
section
variable {M : Md} {S : Sc} {k : Nat} {W : WX} {X : Cx} {kp : List Nat} {a b c e : Expr} {es : List Expr} {fa fb fc : FO} {g : FL} {pos p : Pos} {x : Str}
def gSlS (lo hi : Option Int) : D → Option Val
  | .str z => if z.length ≤ sizeLine then some (.sh (.str (cutS z lo hi))) else none
  | _ => none
def fSliceS (fe : FO) (fl fh : Option FO) : FO := fun η => bindR (fe η) fun o η1 => bindR (fPart fl η1) fun l η2 => bindR (fPart fh η2) fun h η3 => appR (p1 (gSlS l h)) [o] η3
theorem ok_sliceS (ok : Cok M S k W X) {lo hi : Option Expr} {fl fh : Option FO} {p2 : Pos} (ha : OkO M X W a fa) (hl : OkP M X W lo fl) (hh : OkP M X W hi fh) : OkO M X W (.Subscript a (.Slice lo hi none p2) pos) (fSliceS fa fl fh) := by
  obtain ⟨ta, hta, hha⟩ := ha
  obtain ⟨tl, htl, hhl⟩ := okP_po hl
  obtain ⟨th, hth, hhh⟩ := okP_po hh
  refine ⟨_, pe_slice sl_str hta htl hth, fun η σ as H Hs res Q hR hf hp => ?_⟩
  rcases bindR_inv hf with ⟨o, η1, e1, e2⟩ | ⟨c, p, η1, e1, rfl⟩
  · refine hha η σ as H Hs _ _ hR e1 fun v as' H' Hs' r1 l1 x1 => ?_
    rcases bindR_inv e2 with ⟨l, η2, e3, e4⟩ | ⟨c, p, η2, e3, rfl⟩
    · refine hhl [o.p] [some v] η1 σ as' H' Hs' _ _ r1 rfl e3 fun as2 H2 Hs2 r2 x2 => ?_
      rcases bindR_inv e4 with ⟨h, η3, e5, e6⟩ | ⟨c, p, η3, e5, rfl⟩
      · refine hhh [o.p] [some v] η2 σ as2 H2 Hs2 _ _ r2 rfl e5 fun as3 H3 Hs3 r3 x3 => ?_
        refine app_ok (r := fun vs H Q => ∀ x, vs = [x] → rSlS x l h H Q) (prim1 (r := fun x H Q => rSlS x l h H Q) fun d x hx v H Hs Q s t q => ?_) (os := [o]) (vs := [v]) r3 ⟨v, [], rfl, l1, rfl⟩ (x1.trans (x2.trans x3)) e6 hp v rfl
        unfold gSlS at hx
        split at hx
        · split at hx
          · rename_i hz
            obtain rfl := Option.some.inj hx
            exact ⟨_, t, hz, q.str⟩
          · cases hx
        · cases hx
      · refine hhh [o.p] [some v] η2 σ as2 H2 Hs2 _ _ r2 rfl e5 fun v2 dx as3 H3 Hs3 r3 hX x3 => ?_
        exact hp v2 dx as3 H3 Hs3 r3 hX (x1.trans (x2.trans x3))
    · refine hhl [o.p] [some v] η1 σ as' H' Hs' _ _ r1 rfl e3 fun v2 dx as2 H2 Hs2 r2 hX x2 => ?_
      exact hp v2 dx as2 H2 Hs2 r2 hX (x1.trans x2)
  · exact hha η σ as H Hs _ _ hR e1 hp
def gStr : D → Option Val
  | .int i => if i.natAbs.log2 < 1920 then some (.sh (.str (toString i))) else none
  | _ => none
theorem p_str {G : Gc} : P1 G (fun v => fun H Q => ∃ i, [v] = [V.int i] ∧ i.natAbs.log2 < 1920 ∧ Q (V.str (toString i)) H) gStr := fun d x hx v H Hs Q s t q => by
  unfold gStr at hx
  split at hx
  · simp only [Option.ite_none_right_eq_some, Option.some.injEq] at hx
    obtain ⟨h, rfl⟩ := hx
    obtain rfl := t
    exact ⟨_, rfl, h, q.str⟩
  · cases hx
theorem ok_str (ok : Cok M S k W X) (B : Bi M S x (.type "str")) (ha : OkL M X W [a] g) (hs : [a].all noStar = true) : OkO M X W (.Call (.Name x p) [a] [] pos) (fn g (p1 gStr)) :=
  ok_ty ok B call_str_int (primN p_str) ha hs
def gIntS : D → Option Val
  | .str z => (PySem.intText? z).bind fun n => if z.length ≤ 640 then some (.sh (.int n)) else none
  | _ => none
theorem p_intS {G : Gc} : P1 G (fun v => fun H Q => ∃ a n, [v] = [V.str a] ∧ PySem.intText? a = some n ∧ a.length ≤ 640 ∧ Q (V.int n) H) gIntS := fun d x hx v H Hs Q s t q => by
  unfold gIntS at hx
  split at hx
  · simp only [Option.bind_eq_some_iff, Option.ite_none_right_eq_some, Option.some.injEq] at hx
    obtain ⟨n, e, h, rfl⟩ := hx
    obtain rfl := t
    exact ⟨_, n, rfl, e, h, q.int⟩
  · cases hx
theorem ok_intS (ok : Cok M S k W X) (B : Bi M S x (.type "int")) (ha : OkL M X W [a] g) (hs : [a].all noStar = true) : OkO M X W (.Call (.Name x p) [a] [] pos) (fn g (p1 gIntS)) :=
  ok_ty ok B call_int_str (primN p_intS) ha hs
def gJoin (sep : Str) : D → Option Val
  | .lst xs => (strsOf xs).bind fun ys => if (ys.map (·.length)).sum + ys.length * sep.length ≤ 16777216 then some (.sh (.str (Txt.join sep ys))) else none
  | _ => none
def rJoin (K : PySem.W.Frag) (sep : Str) : V → Hp → VK → Prop := fun y H Q => ∃ a p, ∃ ys : List Str, V.str sep = .str a ∧ [y] = [.ref p] ∧ (SqL K H p (ys.map V.str) ∨ SqT K H p (ys.map V.str)) ∧ (ys.map (·.length)).sum + ys.length * a.length ≤ 16777216 ∧ Q (.str (Txt.join a ys)) H
theorem p_join {G : Gc} {sep : Str} : P1 G (rJoin G.K sep) (gJoin sep) := fun d x hx v H Hs Q s t q => by
  unfold gJoin at hx
  split at hx
  · simp only [Option.bind_eq_some_iff, Option.ite_none_right_eq_some, Option.some.injEq] at hx
    obtain ⟨ys, e, h, rfl⟩ := hx
    rw [strsOf_inv e] at t
    obtain ⟨a, vs, rfl, q1, r1⟩ := t
    rw [RepDs.strs r1] at q1
    exact ⟨sep, a, ys, rfl, rfl, .inl q1, h, q.str⟩
  · cases hx
theorem ok_join {apos p1' : Pos} {tk : Nat} {sep : Str} (ok : Cok M S k W X) (ha : OkO M X W a fa) (hs : noStar a = true) (hl : (apos.endLine == pos.line) = true) :
    OkO M X W (.Call (.Attribute (.Constant (.str sep) tk p1') "join" apos) [a] [] pos) (f1 fa (Wp.p1 (gJoin sep))) :=
  ok1 (r := rJoin M.K sep) ha (prim1 p_join) fun ta z => ⟨fun pins s σ H Q I h => (pe_join (pe_str (x := sep) (j := tk) (pos := p1')) z (star_cons hs) rfl hl).run pins s σ H Q I ⟨⟨sep, rfl⟩, by
    rw [show X.K = M.K from ok.K]
    exact h⟩⟩
def gStarts (a : Str) : List D → Option Val
  | [.str b, .int i] => some (.sh (.bl (Txt.startswith3 a b i)))
  | _ => none
def rStarts : V → List V → Hp → VK → Prop := fun x xs H Q => ∃ (a b : Str) (i : Int), x = .str a ∧ xs = [.str b, .int i] ∧ Q (.bl (Txt.startswith3 a b i)) H
theorem p_starts {G : Gc} {a : Str} : PrimOk G (fun vs H Q => rStarts (.str a) vs H Q) (gStarts a) := fun ds x vs H Hs Q e s t q => by
  unfold gStarts at e
  split at e
  · obtain rfl := Option.some.inj e
    obtain ⟨v1, ws, rfl, t1, t2⟩ := t
    obtain ⟨v2, ws2, rfl, t3, t4⟩ := t2
    obtain rfl := t1
    obtain rfl := t3
    obtain rfl := t4
    exact ⟨_, _, _, rfl, rfl, q.bl⟩
  · cases e
def fStartsV (i : Nat) (g : FL) : FO := fun η => match η[i]? with
  | some (some (.sh (.str a))) => bindR (g η) fun os η1 => appR (gStarts a) os η1
  | _ => none
theorem ok_starts {i : Nat} {apos : Pos} {e2 : Expr} (ok : Cok M S k W X) (n : Nm S x i) (ha : OkL M X W [e, e2] g) (hs : noStar e = true) (hs2 : noStar e2 = true) (hl : (apos.endLine == pos.line) = true) :
    OkO M X W (.Call (.Attribute (.Name x p) "startswith" apos) [e, e2] [] pos) (fStartsV i g) := by
  obtain ⟨t, ht, hh⟩ := ha
  refine ⟨_, pe_bm (n.pe ok) (pa := PySem.F.plainAttrs_str) (slot := PySem.F.slot_str_startswith) (hty := PySem.F.type_str_startswith) (hm := mt_startswith3) (ha := ht) (hbase := base_ok rfl) (hfew := by rw [star_cons hs, star_cons hs2]; rfl) (hline := hl) (hs := star_cons hs) (hplain := by rw [star_cons hs2]; rfl), fun η σ as H Hs res Q hR hf hp => ?_⟩
  unfold fStartsV at hf
  split at hf
  rotate_left
  · cases hf
  rename_i a e0
  obtain ⟨v, a1, a2, a3, ev, _, rv, _⟩ := hR.env.at e0
  obtain ⟨_, rd⟩ := RepV.sh_iff.mp rv
  simp only [RepD] at rd
  subst rd
  refine ⟨_, ev, rfl, ?_⟩
  show t σ H _
  rcases bindR_inv hf with ⟨os, η1, e1, e2⟩ | ⟨c, p, η1, e1, rfl⟩
  · refine hh η σ as H Hs _ _ hR e1 fun vs as' H' Hs' r1 l1 x1 => ?_
    exact app_ok (p_starts (a := a)) r1 l1 x1 e2 hp
  · exact hh η σ as H Hs _ _ hR e1 hp
theorem pe_ex {ι : Type} {P : ι → Prop} {T : ι → TE} {e : Expr} (h : ∀ c, P c → PE X e (T c)) : PE X e (fun σ H Q => ∃ c, P c ∧ T c σ H Q) := ⟨fun pins s σ H Q I ⟨c, pc, hc⟩ => (h c pc).run pins s σ H Q I hc⟩
structure FvOk (M : Md) (k na : Nat) (ft : Nat → Option Fi) : Prop where
  ok : ∀ c i, ft c = some i → Cb M k (M.C c) i.F i.n i.df ∧ PySem.W.keepIn M.K (.ref (M.C c)) = true ∧ i.df.length + na - i.n ≤ i.df.length
/-- x(e, ..), x a local name that holds a def -/
def fCallV (ft : Nat → Option Fi) (j na : Nat) (g : FL) : FO := fun η => match η[j]? with
  | some (some (.sh (.fn c))) => (match ft c with
    | some i => bindR (g η) fun os η1 => if os.length = na then callR i.n i.ms i.F (i.dv na) os η1 else none
    | none => none)
  | _ => none
theorem pe_callVG {f : Addr} {fd : FuncData} {ps : List Str} {sp : Sp} {dvs : List V} {ds : List Value} {t : TA} {j kk : Nat} (F : FnG X.prog X.w X.K X.mg X.base kk f fd ps sp) (gd : X.A.guards = some []) (hr : Room kk X.A) (hv : PE X (.Name x p) (tVar j)) (hk : PySem.W.keepIn X.K (.ref f) = true) (hb : L2.Binds X.K fd ps ds) (hd : Vals dvs ds) (tk : Takes X W)
    (ha : PA X (e :: es) t) (h1 : starEach (e :: es) X.env = (false, eval e X.env) :: starEach es X.env) (h2 : (backTo pos (starEach es X.env)).any (·.1) = false) :
    PE X (.Call (.Name x p) (e :: es) [] pos) (fun σ H Q => σ[j]? = some (some (.ref f)) ∧ t σ H fun vs H1 => sp (vs ++ dvs) H1 Q (WE W σ)) := by
  refine ⟨fun pins s σ H Q I ⟨hσ, h⟩ => ?_⟩
  refine wpAny_Call_Name_kw (thn (hv.run pins s σ H (fun v H1 => v = .ref f ∧ H1 = H) I ⟨.ref f, hσ, rfl, rfl⟩) fun u s1 ⟨v, H1, I1, r1, ev, eH⟩ => ?_)
  subst ev
  rw [eH] at I1
  cases r1
  exact PySem.W.callWith_K (h₀ := X.base) I1.ok.mod.kin hk (thn (ha.run pos pins s1 σ H _ I1 h) fun us s2 ⟨vs, H2, I2, r, q⟩ => ⟨I2.kIn, runG F gd hr hb hd tk I2 r q⟩) h1 h2
theorem ok_callV {ft : Nat → Option Fi} {j na : Nat} (ok : Cok M S k W X) (n : Nm S x j) (hf : FvOk M k na ft) (hs : (e :: es).all noStar = true) (hna : (e :: es).length = na) (ha : OkL M X W (e :: es) g) : OkO M X W (.Call (.Name x p) (e :: es) [] pos) (fCallV ft j na g) := by
  obtain ⟨P, w, K, mg, base, C⟩ := M
  have emd := ok.md
  simp only [mdOf, Md.mk.injEq, and_true] at emd
  obtain ⟨rfl, rfl, rfl, rfl, rfl⟩ := emd
  obtain ⟨t, ht, hh⟩ := ha
  have hs0 := hs
  rw [List.all_cons, Bool.and_eq_true] at hs
  have hall : ∀ q : Nat × Fi, ft q.1 = some q.2 → ∃ T : TE, PE X (.Call (.Name x p) (e :: es) [] pos) T ∧ ∀ η σ as H Hs res Q, Rep (⟨X.prog, X.w, X.K, X.mg, X.base, C⟩ : Md).G η σ as H Hs → η[j]? = some (some (.sh (.fn q.1))) → (bindR (g η) fun os η1 => if os.length = na then callR q.2.n q.2.ms q.2.F (q.2.dv na) os η1 else none) = some res → PostO (⟨X.prog, X.w, X.K, X.mg, X.base, C⟩ : Md).G W σ as H Hs Q res → T σ H Q := by
    rintro ⟨c, i⟩ hc
    obtain ⟨cb, hk, hn⟩ := hf.ok c i hc
    obtain ⟨fd, ps, F, hd⟩ := cb.ex
    obtain ⟨dvs, ds, h1, h2, h3⟩ := hd _ hn
    refine ⟨_, pe_callVG F ok.gd ok.room (n.pe ok) hk h3 h2 ok.tk ht (star_cons hs.1) (star_plain hs.2), fun η σ as H Hs res Q hR e0 hf hp => ?_⟩
    obtain ⟨v, a1, a2, a3, ev, _, rv, _⟩ := hR.env.at e0
    obtain ⟨_, rd⟩ := RepV.sh_iff.mp rv
    simp only [RepD] at rd
    subst rd
    refine ⟨ev, ?_⟩
    rcases bindR_inv hf with ⟨os, η1, e1, e2⟩ | ⟨c, p, η1, e1, rfl⟩
    · refine hh η σ as H Hs _ _ hR e1 fun vs as' H' Hs' r1 l1 x1 => ?_
      by_cases hlen : os.length = na
      · rw [if_pos hlen] at e2
        exact callR_ok h1 r1 l1 x1 e2 hp
      · rw [if_neg hlen] at e2
        cases e2
    · exact hh η σ as H Hs _ _ hR e1 hp
  refine ⟨fun σ H Q => ∃ q : {q : Nat × Fi // ft q.1 = some q.2}, True ∧ (hall q.1 q.2).choose σ H Q, pe_ex fun q _ => (hall q.1 q.2).choose_spec.1, fun η σ as H Hs res Q hR hf hp => ?_⟩
  unfold fCallV at hf
  split at hf
  rotate_left
  · cases hf
  rename_i c e0
  split at hf
  rotate_left
  · cases hf
  rename_i i ec
  exact ⟨⟨(c, i), ec⟩, trivial, (hall (c, i) ec).choose_spec.2 η σ as H Hs res Q hR e0 hf hp⟩
def fTry0 (f : FS) : FS := fun η => match f η with
  | some (.ok w η') => some (.ok w η')
  | _ => none
theorem Cok.nox (ok : Cok M S k W X) : Cok M S k (fun _ _ _ _ => False) X.nox :=
  ⟨ok.md, ok.N, ok.sc, ok.own, ok.calm, ok.nd, ok.gd, ok.room, fun u s' ⟨_, _, _, _, _, _, _, _, _, _, _, _, _, _, _, _, z⟩ => z.elim, PassesOwn.never⟩
theorem ok_try0 {body : List Stmt} {h₀ : ExceptHandler} {hs : List ExceptHandler} {f : FS} (ok : Cok M S k W X) (hb : Cok M S k (fun _ _ _ _ => False) X.nox → OkB M X.nox (fun _ _ _ _ => False) kp body f) : OkS M X W kp (.Try body (h₀ :: hs) [] [] pos) (fTry0 f) := by
  obtain ⟨t, ht, hh⟩ := hb ok.nox
  refine ⟨_, ps_try_thru0 ht, fun η σ as H Hs r D hR hf hp => ?_⟩
  unfold fTry0 at hf
  split at hf
  · rename_i w η' e
    obtain rfl := (Option.some.inj hf).symm
    refine hh η σ as H Hs _ D hR e ?_
    cases w <;> exact hp
  · cases hf
theorem get_core {G : Gc} {H Hs : Hp} {ks : List Key} {ws : List D} {k : D} {key : Key} {v1 v2 : V} (t1 : RepT G H Hs (.dict ks ws) v1) (t2 : RepT G H Hs k v2) (e1 : keyOf k = some key) :
    ∃ a o, v1 = .ref a ∧ DGet H a v2 o ∧ ((∃ y w, dget key ks ws = some y ∧ o = some w ∧ RepD G Hs y w) ∨ (dget key ks ws = none ∧ o = none)) := by
  obtain ⟨a, us, rfl, q1, l, rd⟩ := t1
  refine ⟨a, valV (ks.zip us) key, rfl, .inl ⟨_, key, q1, keyOf_ok t2 e1, rfl⟩, ?_⟩
  cases eg : dget key ks ws with
  | some y =>
    obtain ⟨w, e3, r2⟩ := dget_val rd eg
    exact .inl ⟨y, w, rfl, e3, r2⟩
  | none =>
    have hn : ∀ {ks : List Key} {ws : List D} {us : List V}, dget key ks ws = none → RepDs G Hs ws us → ks.length = us.length → valV (ks.zip us) key = none := by
      intro ks
      induction ks with
      | nil => intros; rfl
      | cons k' ks ih =>
        intro ws us e r hl
        cases us with
        | nil => simp at hl
        | cons u us =>
          cases ws with
          | nil =>
            have := r.length
            simp at this
          | cons d ws =>
            obtain ⟨v, vs, e2, p, r⟩ := r.uncons
            obtain ⟨rfl, rfl⟩ := List.cons.inj e2
            simp only [dget] at e
            by_cases hk : k' = key
            · rw [if_pos hk] at e; cases e
            · rw [if_neg hk] at e
              rw [List.zip_cons_cons, valV_neg (p := (k', u)) hk]
              exact ih e r (by simpa using hl)
    exact .inr ⟨rfl, hn eg rd l⟩
def fGetL (fa fb : FO) : FO := fun η => bindR (fa η) fun o η1 => if o.isD η1 = true then bindR (fb η1) fun p η2 => match prepAll [o, p, .pend (.sh (.lst []))] η2 with
  | some ([.dict ks vs, k, _], η3) => (match keyOf k with
    | some key => okR (.pend (.sh ((dget key ks vs).getD (.lst [])))) η3
    | none => none)
  | _ => none
  else none
theorem ok_getL {apos : Pos} (ok : Cok M S k W X) (ha : OkO M X W a fa) (hb : OkO M X W b fb) (hc : OkO M X W c (fDisp .ol fNil)) (h1 : baseOk a = true) (h2 : noStar b = true) (h3 : noStar c = true) (hl : (apos.endLine == pos.line) = true) : OkO M X W (.Call (.Attribute a "get" apos) [b, c] [] pos) (fGetL fa fb) := by
  obtain ⟨ta, hta, hha⟩ := ha
  obtain ⟨tb, htb, hhb⟩ := hb.framed
  obtain ⟨tc, htc, hhc⟩ := hc.framed
  have st : starEach [b, c] X.env = [(false, eval b X.env), (false, eval c X.env)] := by rw [star_cons h2, star_cons h3]; rfl
  refine ⟨_, pe_dget2 (by have := ok.un; omega) hta htb htc ⟨base_ok h1, by rw [st]; rfl, hl, by rw [st]; rfl⟩, fun η σ as H Hs res Q hR hf hp => ?_⟩
  rcases bindR_inv hf with ⟨o, η1, e1, e2⟩ | ⟨c, p, η1, e1, rfl⟩
  · refine hha η σ as H Hs _ _ hR e1 fun v as' H' Hs' r1 l1 x1 => ?_
    split at e2
    rotate_left
    · cases e2
    rename_i hd
    obtain ⟨a, rfl, hda⟩ := Opv.isD_ok r1 l1 hd
    refine ⟨a, rfl, hda, ?_⟩
    rcases bindR_inv e2 with ⟨o2, η2, e3, e4⟩ | ⟨c, p, η2, e3, rfl⟩
    · refine hhb [o.p] [some (.ref a)] η1 σ as' H' Hs' _ _ r1 rfl e3 fun v2 as2 H2 Hs2 r2 l2 x2 => ?_
      refine hhc [o.p, o2.p] [some (.ref a), some v2] η2 σ as2 H2 Hs2 (.ok (.pend (.ol [])) η2) _ r2 rfl rfl fun v3 as3 H3 Hs3 r3 l3 x3 => ?_
      obtain ⟨v3', as4, Hs4, ev3, r4, x4, rd⟩ := r3.freeze (i := 2) (x := .ol []) rfl
      obtain rfl : v3 = v3' := by simpa using ev3
      have r4' : Rep M.G ([o, o2, Opv.pend (.sh (.lst []))].map Opv.p ++ η2) ([V.ref a, v2, v3].map some ++ σ) as4 H3 Hs4 := r4
      have xx := ((x1.trans x2).trans x3).trans x4
      split at e4
      rotate_left
      · cases e4
      rename_i ks vs kd ed η3 ep
      split at e4
      rotate_left
      · cases e4
      rename_i key ek
      obtain rfl := (Option.some.inj e4).symm
      obtain ⟨as5, Hs5, r5, x5, ts⟩ := prep_ok r4' ⟨_, _, rfl, l1, _, _, rfl, l2, _, _, rfl, trivial, rfl⟩ ep
      obtain ⟨u1, z1, y1, t1, t'⟩ := ts
      obtain ⟨u2, z2, y2, t2, t''⟩ := t'
      obtain ⟨rfl, rfl⟩ := List.cons.inj y1
      obtain ⟨rfl, rfl⟩ := List.cons.inj y2
      obtain ⟨a', o', z1, z2, z3⟩ := get_core t1 t2 ek
      obtain rfl : a = a' := by simpa using z1
      refine ⟨o', z2, ?_⟩
      rcases z3 with ⟨y, w, e6, rfl, ry⟩ | ⟨e6, rfl⟩
      · rw [e6] at hp
        exact hp w _ H3 _ (r5.push_sh ry) trivial (xx.trans x5)
      · rw [e6] at hp
        exact hp v3 _ H3 _ (r5.push_sh (RepD.le (d := .lst []) rd x5.grow.le)) trivial (xx.trans x5)
    · exact hhb [o.p] [some (.ref a)] η1 σ as' H' Hs' _ _ r1 rfl e3 fun v2 dx as2 H2 Hs2 r2 hX x2 => hp v2 dx as2 H2 Hs2 r2 hX (x1.trans x2)
  · exact hha η σ as H Hs _ _ hR e1 hp
end
section
variable {η η1 η2 η3 η4 : Wp.Env} {o o2 : Opv} {fa : FO} {g : FL} {i : Nat} {os : List Opv} {ds : List D} {z : Val}
theorem e_sliceS {fl fh : Option FO} {l h : Option Int} {d : D} (h1 : fa η = some (.ok o η1)) (h2 : fPart fl η1 = some (.ok l η2)) (h3 : fPart fh η2 = some (.ok h η3)) (h4 : Lf (prepAll [o] η3 = some ([d], η4))) (h5 : Gp (gSlS l h d = some z)) : fSliceS fa fl fh η = some (.ok (.pend z) η4) := by
  unfold fSliceS appR
  simp only [h1, bindR_some, h2, h3, h4.h, Wp.p1, h5.h, okR]
theorem e_starts {a : Str} (h1 : Lf (η[i]? = some (some (.sh (.str a))))) (h2 : g η = some (.ok os η1)) (h3 : Lf (prepAll os η1 = some (ds, η2))) (h4 : Gp (gStarts a ds = some z)) : fStartsV i g η = some (.ok (.pend z) η2) := by
  unfold fStartsV appR
  simp only [h1.h, h2, bindR_some, h3.h, h4.h, okR]
theorem e_callV {ft : Nat → Option Fi} {j na n c : Nat} {ms : List Bool} {F : FF} {xs : List Val} {x : Val} {θ : Wp.Env} (h1 : Lf (η[j]? = some (some (.sh (.fn c))))) (h2 : Lf (ft c = some ⟨F, n, ms, []⟩)) (hg : g η = some (.ok os η1)) (ha : Lf (argAll ms os η1 = some (xs, η2))) (hn : Lf (os.length = na)) (hn2 : Lf (os.length = n)) (hF : F xs = some (.ok x θ)) (hb : Lf (backAll os θ η2 = η3)) : fCallV ft j na g η = some (.ok (.pend x) η3) := by
  unfold fCallV
  simp only [h1.h, h2.h]
  rw [hg, bindR_some, if_pos hn.h]
  simp only [show (Fi.dv ⟨F, n, ms, []⟩ na) = [] from by simp [Fi.dv]]
  exact callR_e ha hn2.h hF hb.h
theorem e_getL {fb : FO} {ks : List Key} {vs : List D} {kd ed d : D} {key : Key} {q : Opv} (h1 : fa η = some (.ok o η1)) (h0 : Lf (o.isD η1 = true)) (h2 : fb η1 = some (.ok q η2)) (h4 : Lf (prepAll [o, q, .pend (.sh (.lst []))] η2 = some ([.dict ks vs, kd, ed], η3))) (h5 : Lf (keyOf kd = some key)) (h6 : Gp ((dget key ks vs).getD (.lst []) = d)) : fGetL fa fb η = some (.ok (.pend (.sh d)) η3) := by
  unfold fGetL
  simp only [h1, bindR_some, h0.h, if_true, h2, h4.h, h5.h, h6.h, okR]
theorem e_try0 {f : FS} {w : Flw} (h : f η = some (.ok w η1)) : fTry0 f η = some (.ok w η1) := by
  unfold fTry0
  rw [h]
end
end Wp
end
section
set_option Elab.async false
set_option linter.all false
set_option maxRecDepth 100000
set_option maxHeartbeats 1000000
namespace Wp
open PySem PySem.Spec PyProof.Rows L2
def abc : Str := "abcdefghijklmnopqrstuvwxyz"
def okName (x : Str) : Bool := decide (1 ≤ x.length) && decide (x.length ≤ 8) && x.cps.toList.all fun c => decide (c ∈ abc.cps.toList)
theorem okName_ltr {x : Str} (h : okName x = true) {c : Nat} (hc : c ∈ x.cps.toList) : c ∈ abc.cps.toList := by
  simp only [okName, Bool.and_eq_true, List.all_eq_true, decide_eq_true_eq] at h
  exact h.2 c hc
theorem okName_len {x : Str} (h : okName x = true) : 1 ≤ x.length ∧ x.length ≤ 8 := by
  simp only [okName, Bool.and_eq_true, decide_eq_true_eq] at h
  exact h.1
theorem abc_lt : ∀ c ∈ abc.cps.toList, c < 123 := by decide +kernel
theorem okName_strOk {x : Str} (h : okName x = true) : PyData.strOk x = true := by
  unfold PyData.strOk
  rw [Array.all_eq_true_iff_forall_mem]
  intro c hc
  have := abc_lt c (okName_ltr h (Array.mem_toList_iff.mpr hc))
  exact decide_eq_true (by omega)
def hD (H : List (Str × Int)) : D := .dict (H.map fun p => .inr p.1) (H.map fun p => .int p.2)
def hv (H : List (Str × Int)) (x : Str) : Int := (H.lookup x).getD 0
def hks (H : List (Str × Int)) : List Str := H.map (·.1)
inductive Kd where
  | first | last | rank (k : Int)
  deriving DecidableEq
inductive Trm where
  | part (w : Bool) (x : Str) (n : Int) | grp (k : Kd) (ts : List Trm)
abbrev wd (w : Bool) : Str := if w then "now" else "of"
def grpD : Kd → D → D
  | .first, l => .tup [.str "first", l]
  | .last, l => .tup [.str "last", l]
  | .rank k, l => .tup [.str "rank", .int k, l]
mutual
def Trm.d : Trm → D
  | .part w x n => .tup [.str (wd w), .str x, .int n]
  | .grp k ts => grpD k (.lst (Trm.ds ts))
def Trm.ds : List Trm → List D
  | [] => []
  | t :: ts => t.d :: Trm.ds ts
end
theorem Trm.ds_map : ∀ ts : List Trm, Trm.ds ts = ts.map Trm.d
  | [] => rfl
  | t :: ts => by rw [Trm.ds, Trm.ds_map ts, List.map_cons]
def Kd.ok (n : Nat) : Kd → Bool
  | .rank k => decide (1 ≤ k) && decide (k ≤ n)
  | _ => true
mutual
def Trm.ok : Trm → Bool
  | .part _ x _ => okName x
  | .grp k ts => !ts.isEmpty && k.ok ts.length && Trm.oks ts
def Trm.oks : List Trm → Bool
  | [] => true
  | t :: ts => t.ok && Trm.oks ts
end
theorem Trm.oks_all : ∀ {ts : List Trm}, Trm.oks ts = true ↔ ∀ t ∈ ts, t.ok = true
  | [] => by simp [Trm.oks]
  | t :: ts => by simp [Trm.oks, Trm.oks_all (ts := ts)]
mutual
def Trm.dep : Trm → Nat
  | .part _ _ _ => 0
  | .grp _ ts => Trm.deps ts + 1
def Trm.deps : List Trm → Nat
  | [] => 0
  | t :: ts => max t.dep (Trm.deps ts)
end
theorem Trm.deps_le {n : Nat} : ∀ {ts : List Trm}, Trm.deps ts ≤ n ↔ ∀ t ∈ ts, t.dep ≤ n
  | [] => by simp [Trm.deps]
  | t :: ts => by simp [Trm.deps, Nat.max_le, Trm.deps_le (ts := ts)]
mutual
def Trm.size : Trm → Nat
  | .part _ _ _ => 1
  | .grp _ ts => Trm.sizes ts
def Trm.sizes : List Trm → Nat
  | [] => 0
  | t :: ts => t.size + Trm.sizes ts
end
theorem Trm.grp_ok {k : Kd} {ts : List Trm} (h : (Trm.grp k ts).ok = true) : ts ≠ [] ∧ k.ok ts.length = true ∧ ∀ t ∈ ts, t.ok = true := by
  simp only [Trm.ok, Bool.and_eq_true, Bool.not_eq_true', List.isEmpty_eq_false_iff, Trm.oks_all] at h
  exact ⟨h.1.1, h.1.2, h.2⟩
theorem Trm.grp_dep {k : Kd} {ts : List Trm} {n : Nat} (h : (Trm.grp k ts).dep ≤ n + 1) : ∀ t ∈ ts, t.dep ≤ n := by
  simp only [Trm.dep] at h
  exact Trm.deps_le.mp (by omega)
mutual
theorem Trm.plain : ∀ {t : Trm}, t.ok = true → t.d.plain = true
  | .part w x n, h => by
    have : PyData.strOk x = true := okName_strOk (by simpa [Trm.ok] using h)
    have w' : PyData.strOk (wd w) = true := by cases w <;> decide +kernel
    simp only [Trm.d, D.plain, D.plains, this, w', Bool.and_self]
  | .grp k ts, h => by
    have := Trm.plains (ts := ts) (Trm.grp_ok h).2.2
    have e1 : PyData.strOk ("first" : Str) = true := by decide +kernel
    have e2 : PyData.strOk ("last" : Str) = true := by decide +kernel
    have e3 : PyData.strOk ("rank" : Str) = true := by decide +kernel
    cases k <;> simp only [Trm.d, grpD, D.plain, D.plains, this, e1, e2, e3, Bool.and_self]
theorem Trm.plains : ∀ {ts : List Trm}, (∀ t ∈ ts, t.ok = true) → D.plains (Trm.ds ts) = true
  | [], _ => rfl
  | t :: ts, h => by
    simp only [Trm.ds, D.plains, Trm.plain (h t (List.mem_cons_self ..)), Trm.plains fun u hu => h u (List.mem_cons_of_mem _ hu), Bool.and_self]
end
mutual
theorem Trm.d_dp : ∀ (t : Trm), t.d.dp ≤ 2 * t.dep + 1
  | .part w x n => by simp [Trm.d, D.dp, D.dps, Trm.dep]
  | .grp k ts => by
    have := Trm.ds_dp ts
    cases k <;> simp only [Trm.d, grpD, D.dp, D.dps, Trm.dep] <;> omega
theorem Trm.ds_dp : ∀ (ts : List Trm), D.dps (Trm.ds ts) ≤ 2 * Trm.deps ts + 1
  | [] => by simp [Trm.ds, D.dps]
  | t :: ts => by
    have h1 := Trm.d_dp t
    have h2 := Trm.ds_dp ts
    simp only [Trm.ds, D.dps, Trm.deps]
    omega
end
end Wp
namespace Wp
open PySem PySem.Spec PyProof.Rows L2
mutual
def Trm.leaves : Trm → List (Bool × Str × Int)
  | .part w x n => [(w, x, n)]
  | .grp _ ts => Trm.leavess ts
def Trm.leavess : List Trm → List (Bool × Str × Int)
  | [] => []
  | t :: ts => t.leaves ++ Trm.leavess ts
end
/-- a term over names, its waits small enough -/
structure Trm.good (ns hs : List Str) (m : Nat) (t : Trm) : Prop where
  ok : t.ok = true
  dep : t.dep ≤ m
  lv : ∀ l ∈ t.leaves, (if l.1 = true then l.2.1 ∈ hs else l.2.1 ∈ ns) ∧ -200000000000 ≤ l.2.2 ∧ l.2.2 ≤ 200000000000
theorem Trm.good.mono {ns hs : List Str} {m n : Nat} {t : Trm} (h : t.good ns hs m) (hm : m ≤ n) : t.good ns hs n := ⟨h.ok, Nat.le_trans h.dep hm, h.lv⟩
end Wp
end
section
set_option Elab.async false
set_option linter.all false
set_option maxRecDepth 100000
set_option maxHeartbeats 1000000
namespace Wp
open PySem PySem.Spec PyProof.Rows L2
mutual
def Trm.parts : Trm → List Int → List (List Int × Bool × Str × Int)
  | .part w x n, p => [(p, w, x, n)]
  | .grp _ ts, p => Trm.partss ts p 0
def Trm.partss : List Trm → List Int → Nat → List (List Int × Bool × Str × Int)
  | [], _, _ => []
  | t :: ts, p, i => t.parts (p ++ [(i : Int)]) ++ Trm.partss ts p (i + 1)
end
def Trm.names (w : Bool) (t : Trm) : List Str := (t.leaves.filter fun l => l.1 == w).map (·.2.1)
def Kd.at_ (n : Nat) : Kd → Nat
  | .first => 0
  | .last => n - 1
  | .rank k => (k - 1).toNat
mutual
def Trm.hour (h w : Str → Int) : Trm → Int
  | .part b x n => (if b then w x else h x) + n
  | .grp k ts => (sortI (Trm.hours h w ts)).getD (k.at_ ts.length) 0
def Trm.hours (h w : Str → Int) : List Trm → List Int
  | [] => []
  | t :: ts => t.hour h w :: Trm.hours h w ts
end
theorem gIn2_t {x a b : Str} (h : x = a ∨ x = b) : gIn false (.str x) (.tup [.str a, .str b]) = some (.sh (.bl true)) := by
  show some (Val.sh (.bl (decide (x ∈ [a, b])))) = _
  rw [decide_eq_true (by simpa using h)]
theorem gIn2_f {x a b : Str} (h : x ≠ a ∧ x ≠ b) : gIn false (.str x) (.tup [.str a, .str b]) = some (.sh (.bl false)) := by
  show some (Val.sh (.bl (decide (x ∈ [a, b])))) = _
  rw [decide_eq_false (by simpa using h)]
theorem gIn_ltr {c : Nat} (h : c ∈ abc.cps.toList) : gIn true (.str ⟨#[c]⟩) (.str "abcdefghijklmnopqrstuvwxyz") = some (.sh (.bl false)) := by
  show some (Val.sh (.bl (!decide (c ∈ abc.cps.toList)))) = _
  rw [decide_eq_true h]
  rfl
theorem gSl_m1_2 (a b : D) : gSl none (some (-1)) (.tup [a, b]) = some (.ot [.sh a]) := by
  simp [gSl, Wp.cutD, HT.sIx]
theorem gSl_m1_3 (a b c : D) : gSl none (some (-1)) (.tup [a, b, c]) = some (.ot [.sh a, .sh b]) := by
  simp [gSl, Wp.cutD, HT.sIx]
theorem at_m1_2 (a b : D) : gSub2 (.tup [a, b]) (.int (-1)) = some (.sh b) := by
  show (atI [a, b] (-1)).map Val.sh = _
  rw [atI_end (l := b) rfl]
  rfl
theorem at_m1_3 (a b c : D) : gSub2 (.tup [a, b, c]) (.int (-1)) = some (.sh c) := by
  show (atI [a, b, c] (-1)).map Val.sh = _
  rw [atI_end (l := c) rfl]
  rfl
end Wp
namespace Wp
open PySem PySem.Spec PyProof.Rows L2
mutual
theorem Trm.leaves_pos : ∀ {t : Trm}, t.ok = true → 1 ≤ t.leaves.length
  | .part _ _ _, _ => by simp [Trm.leaves]
  | .grp k ts, h => by
    obtain ⟨h0, _, hs⟩ := Trm.grp_ok h
    have := Trm.leavess_pos hs
    have := List.length_pos_iff.mpr h0
    simp only [Trm.leaves]
    omega
theorem Trm.leavess_pos : ∀ {ts : List Trm}, (∀ t ∈ ts, t.ok = true) → ts.length ≤ (Trm.leavess ts).length
  | [], _ => by simp
  | t :: ts, h => by
    have h1 := Trm.leaves_pos (h t (List.mem_cons_self ..))
    have h2 := Trm.leavess_pos fun u hu => h u (List.mem_cons_of_mem _ hu)
    simp only [Trm.leavess, List.length_append, List.length_cons]
    omega
end
theorem Trm.leavess_le : ∀ {ts : List Trm} {t : Trm}, t ∈ ts → t.leaves.length ≤ (Trm.leavess ts).length
  | [], _, h => by simp at h
  | u :: ts, t, h => by
    simp only [Trm.leavess, List.length_append]
    rcases List.mem_cons.mp h with e | h
    · rw [e]; omega
    · have := Trm.leavess_le h
      omega
/-- a term that fits: not too wide, not too deep -/
structure Trm.fit (d : Nat) (t : Trm) : Prop where
  ok : t.ok = true
  dep : t.dep ≤ d
  wide : t.leaves.length < 2000
theorem Trm.fit.grp {d : Nat} {k : Kd} {ts : List Trm} (h : (Trm.grp k ts).fit (d + 1)) : ts ≠ [] ∧ k.ok ts.length = true ∧ ts.length < 2000 ∧ ∀ t ∈ ts, t.fit d := by
  obtain ⟨h0, hk, hs⟩ := Trm.grp_ok h.ok
  have hw := h.wide
  simp only [Trm.leaves] at hw
  have := Trm.leavess_pos hs
  refine ⟨h0, hk, by omega, fun t ht => ⟨hs t ht, Trm.grp_dep h.dep t ht, ?_⟩⟩
  have := Trm.leavess_le ht
  omega
theorem Trm.fit.mono {d e : Nat} {t : Trm} (h : t.fit d) (hd : d ≤ e) : t.fit e := ⟨h.ok, Nat.le_trans h.dep hd, h.wide⟩
theorem Trm.fit.part {d : Nat} {k : Kd} {ts : List Trm} (h : (Trm.grp k ts).fit d) : ∃ e, d = e + 1 := by
  have := h.dep
  simp only [Trm.dep] at this
  exact ⟨d - 1, by omega⟩
theorem gEq_ds {ts : List Trm} {d : Nat} (h0 : ts ≠ []) (h : ∀ t ∈ ts, t.fit d) (hd : d ≤ 25) : gEq (.lst (ts.map Trm.d)) (.lst []) = some (.sh (.bl false)) := by
  rw [← Trm.ds_map]
  refine gEq_ne (by simpa [D.plain] using Trm.plains fun t ht => (h t ht).ok) rfl ?_ (by simp [D.dp, D.dps]) ?_
  · have h1 := Trm.ds_dp ts
    have h2 := Trm.deps_le.mpr fun t ht => (h t ht).dep
    simp only [D.dp]
    omega
  · cases ts with
    | nil => exact absurd rfl h0
    | cons t ts => simp [Trm.ds]
end Wp
namespace Wp
open PySem PySem.Spec PyProof.Rows L2
abbrev fsR : List Str := ["form"]
def ruD (t : Trm) : D := .obj 0 fsR [t.d]
/-- a name's hours -/
structure HOk (H : List (Str × Int)) : Prop where
  nd : (hks H).Nodup
  ok : ∀ x ∈ hks H, okName x = true
  len : H.length < 1000
end Wp
end
section
set_option Elab.async false
set_option linter.all false
set_option maxRecDepth 100000
set_option maxHeartbeats 1000000
namespace Wp
open PySem PySem.Spec PyProof.Rows L2
theorem gAdd_l {xs ys : List D} (h : xs.length + ys.length < 2 ^ 20) : gAdd (.lst xs) (.lst ys) = some (.ol ((xs ++ ys).map .sh)) := by
  show (if xs.length + ys.length ≤ sizeLine then _ else _) = _
  rw [if_pos (by rw [sizeLine_eq]; omega)]
end Wp
namespace Wp
open PySem PySem.Spec PyProof.Rows L2
end Wp
namespace Wp
open PySem PySem.Spec PyProof.Rows L2
end Wp
end
section
set_option Elab.async false
set_option linter.all false
set_option maxRecDepth 100000
set_option maxHeartbeats 1000000
namespace Wp
open PySem PySem.Spec PyProof.Rows L2
mutual
def Trm.tr (f : Bool → Str → Int → Trm) (g : Nat → Kd → Kd) : Trm → Trm
  | .part w x n => f w x n
  | .grp k ts => .grp (g ts.length k) (Trm.trs f g ts)
def Trm.trs (f : Bool → Str → Int → Trm) (g : Nat → Kd → Kd) : List Trm → List Trm
  | [] => []
  | t :: ts => t.tr f g :: Trm.trs f g ts
end
section
variable {f : Bool → Str → Int → Trm} {g : Nat → Kd → Kd}
end
def Trm.mv (d : Int) (t : Trm) : Trm := t.tr (fun w x n => .part w x (n + d)) fun _ k => k
def putF (ρ : Str → Option Trm) (w : Bool) (x : Str) (n : Int) : Trm := if w = true then .part w x n else match ρ x with
  | some s => s.mv n
  | none => .part w x n
def Trm.put (ρ : Str → Option Trm) (t : Trm) : Trm := t.tr (putF ρ) fun _ k => k
section
variable {η η1 η2 : Wp.Env} {i : Nat} {y : Val} {ks : List Key} {ds : List D}
theorem e_lockSn {f : FS} (h : Lf (η[i]? = some (some y))) (h2 : Lf (y.d = .dict ks ds)) (h3 : Lf (η.set i (some (.sh (.dict ks ds))) = η1)) (h4 : f η1 = some (.ok .next η2)) : fLockS i f η = some (.ok .next η2) := by
  unfold fLockS
  simp only [h.h, h2.h, h3.h, h4, okR, D.lockD, if_true]
theorem e_lockE {f : FO} {o : Opv} (h : Lf (η[i]? = some (some y))) (h2 : Lf (y.d = .dict ks ds)) (h3 : Lf (η.set i (some (.sh (.dict ks ds))) = η1)) (h4 : f η1 = some (.ok o η2)) : fLockE i f η = some (.ok o η2) := by
  unfold fLockE
  simp only [h.h, h2.h, h3.h, h4, okR, D.lockD, if_true]
end
section
variable {α : Type}
def kvD (f : α → D) (R : List (Str × α)) : D := .dict (R.map fun p => .inr p.1) (R.map fun p => f p.2)
theorem dget_kv {f : α → D} : ∀ {R : List (Str × α)} {x : Str}, dget (κ := Key) (.inr x) (R.map fun p => .inr p.1) (R.map fun p => f p.2) = (R.lookup x).map f
  | [], x => rfl
  | (y, n) :: R, x => by
    simp only [List.map_cons, dget, List.lookup_cons, dget_kv (R := R)]
    by_cases h : x = y
    · subst h
      simp
    · have h2 : ¬ (Sum.inr y : Key) = Sum.inr x := fun z => h (Sum.inr.inj z).symm
      rw [if_neg h2]
      have h3 : (x == y) = false := by simpa using h
      rw [h3]
theorem gSub2_kv {f : α → D} {R : List (Str × α)} {x : Str} {a : α} (h : R.lookup x = some a) : gSub2 (kvD f R) (.str x) = some (.sh (f a)) := by
  unfold gSub2 kvD gDk
  simp only [Wp.keyOf, Option.bind_some, dget_kv, h, Option.map_some]
theorem any_kv {R : List (Str × α)} {x : Str} : ((R.map fun p => (Sum.inr p.1 : Key)).any fun k' => decide (k' = Sum.inr x)) = (R.lookup x).isSome := by
  induction R with
  | nil => rfl
  | cons q R ih =>
    obtain ⟨y, n⟩ := q
    simp only [List.map_cons, List.any_cons, ih, List.lookup_cons]
    by_cases h : x = y
    · subst h
      simp
    · have h2 : ¬ (Sum.inr y : Key) = Sum.inr x := fun z => h (Sum.inr.inj z).symm
      have h3 : (x == y) = false := by simpa using h
      rw [h3, decide_eq_false h2, Bool.false_or]
theorem gIn_kv (f : α → D) (b : Bool) (R : List (Str × α)) (x : Str) : gIn b (.str x) (kvD f R) = some (.sh (.bl (if b then !(R.lookup x).isSome else (R.lookup x).isSome))) := by
  unfold gIn inA kvD inK
  simp only [Wp.keyOf, Option.map_some, any_kv]
theorem kv_mem : ∀ {R : List (Str × α)} {x : Str} {a : α}, R.lookup x = some a → (x, a) ∈ R
  | [], x, a, h => by cases h
  | (y, n) :: R, x, a, h => by
    rw [List.lookup_cons] at h
    by_cases e : x = y
    · subst e
      simp at h
      subst h
      exact List.mem_cons_self ..
    · have h3 : (x == y) = false := by simpa using e
      rw [h3] at h
      exact List.mem_cons_of_mem _ (kv_mem h)
end
end Wp
end
section
set_option Elab.async false
set_option linter.all false
set_option maxRecDepth 100000
set_option maxHeartbeats 1000000
namespace Wp
open PySem PySem.Spec PyProof.Rows L2
section
variable {B : List (Str × Trm)} {ρ : Str → Nat} {h h' v v' : Str → Int}
end
end Wp
end
section
set_option Elab.async false
set_option linter.all false
set_option maxRecDepth 100000
set_option maxHeartbeats 1000000
namespace Wp
open PySem PySem.Spec PyProof.Rows L2
def tS (l : List Nat) : Str := ⟨l.toArray⟩
theorem tS_tl (l : List Nat) : (tS l).cps.toList = l := by unfold tS; simp
theorem tS_len (l : List Nat) : (tS l).length = l.length := by
  show (tS l).cps.size = _
  unfold tS
  simp
theorem of_tS (x : Str) : tS x.cps.toList = x := by
  cases x
  unfold tS
  simp
theorem tS_inj {a b : List Nat} (h : tS a = tS b) : a = b := by
  have := congrArg (fun s : Str => s.cps.toList) h
  simpa only [tS_tl] using this
theorem tS_app (a b : List Nat) : tS a ++ tS b = tS (a ++ b) := by
  show Str.append (tS a) (tS b) = _
  unfold tS Str.append
  simp
theorem tS_one (c : Nat) : (⟨#[c]⟩ : Str) = tS [c] := rfl
theorem gAdd_tS {a b : List Nat} (h : a.length + b.length ≤ 16777216) : gAdd (.str (tS a)) (.str (tS b)) = some (.sh (.str (tS (a ++ b)))) := by
  show (if (tS a).length + (tS b).length ≤ sizeLine then _ else _) = _
  rw [tS_len, tS_len, sizeLine_eq, if_pos h, tS_app]
theorem gLen_tS {a : List Nat} (h : a.length ≤ 16777216) : gLen (.str (tS a)) = some (.sh (.int a.length)) := by
  show (if (tS a).length ≤ sizeLine then _ else _) = _
  rw [tS_len, sizeLine_eq, if_pos h]
theorem gSub2_tS {l : List Nat} {i c : Nat} (hl : l.length ≤ 16777216) (h : l[i]? = some c) : gSub2 (.str (tS l)) (.int (i : Int)) = some (.sh (.str (tS [c]))) := by
  show (if (tS l).length ≤ sizeLine then (atI (tS l).cps.toList (i : Int)).map fun c => Val.sh (.str ⟨#[c]⟩) else none) = _
  rw [tS_len, sizeLine_eq, if_pos hl, tS_tl, atI_nat h]
  rfl
theorem gIn_tS (neg : Bool) (c : Nat) (m : List Nat) : gIn neg (.str (tS [c])) (.str (tS m)) = some (.sh (.bl (if neg then !decide (c ∈ m) else decide (c ∈ m)))) := by
  show (match (tS [c]).cps.toList with
    | [c] => some (decide (c ∈ (tS m).cps.toList))
    | _ => none).map _ = _
  rw [tS_tl, tS_tl]
  rfl
/-- a part of a text -/
theorem take_drop_min (l : List Nat) (i j : Nat) : (l.drop (min i l.length)).take (min j l.length - min i l.length) = (l.drop i).take (j - i) := by
  refine List.ext_getElem? fun m => ?_
  rw [List.getElem?_take, List.getElem?_take, List.getElem?_drop, List.getElem?_drop]
  by_cases hi : i ≤ l.length
  · rw [Nat.min_eq_left hi]
    by_cases h1 : m < j - i
    · rw [if_pos h1]
      by_cases h2 : m < min j l.length - i
      · rw [if_pos h2]
      · rw [if_neg h2, List.getElem?_eq_none]
        omega
    · rw [if_neg h1, if_neg (show ¬ m < min j l.length - i by omega)]
  · rw [Nat.min_eq_right (show l.length ≤ i by omega), if_neg (show ¬ m < min j l.length - l.length by omega)]
    split
    · rw [List.getElem?_eq_none]
      omega
    · rfl
theorem cut_tS (l : List Nat) (i j : Nat) : cutS (tS l) (some (i : Int)) (some (j : Int)) = tS ((l.drop i).take (j - i)) := by
  unfold cutS
  rw [tS_tl, tS_len, HT.sIx_nat, HT.sIx_nat, take_drop_min]
  rfl
theorem cut_from (l : List Nat) (i : Nat) : cutS (tS l) (some (i : Int)) none = tS (l.drop i) := by
  unfold cutS
  rw [tS_tl, tS_len, HT.sIx_nat, HT.sIx_none]
  have := take_drop_min l i l.length
  rw [Nat.min_self] at this
  rw [this, List.take_of_length_le (by rw [List.length_drop]; exact Nat.le_refl _)]
  rfl
theorem cut_upto (l : List Nat) (j : Nat) : cutS (tS l) none (some (j : Int)) = tS (l.take j) := by
  unfold cutS
  rw [tS_tl, tS_len, HT.sIx_nat, HT.sIx_none]
  have := take_drop_min l 0 j
  rw [Nat.zero_min] at this
  rw [this]
  rfl
theorem gSlS_tS {l : List Nat} {lo hi : Option Int} {m : List Nat} (hl : l.length ≤ 16777216) (h : cutS (tS l) lo hi = tS m) : gSlS lo hi (.str (tS l)) = some (.sh (.str (tS m))) := by
  show (if (tS l).length ≤ sizeLine then some (Val.sh (.str (cutS (tS l) lo hi))) else none) = _
  rw [tS_len, sizeLine_eq, if_pos hl, h]
/-- t begins at a place -/
theorem starts_tS (P Q b : List Nat) : Txt.startswith3 (tS (P ++ Q)) (tS b) (P.length : Int) = b.isPrefixOf Q := by
  unfold Txt.startswith3 Builtin.Str.subAt fromIndex
  have e1 : (max 0 (if (P.length : Int) < 0 then (P.length : Int) + ((tS (P ++ Q)).length : Int) else (P.length : Int))).toNat = P.length := by
    rw [if_neg (by omega)]
    omega
  rw [e1]
  have e2 : ((tS (P ++ Q)).cps.extract P.length (P.length + (tS b).length) == (tS b).cps) = decide (Q.take b.length = b) := by
    rw [Bool.eq_iff_iff, beq_iff_eq, decide_eq_true_iff, ← Array.toList_inj, Array.toList_extract, tS_tl, tS_tl, tS_len]
    rw [List.extract_eq_take_drop]
    simp
  rw [e2, tS_len, tS_len, List.length_append]
  rw [Bool.eq_iff_iff, Bool.and_eq_true, decide_eq_true_iff, decide_eq_true_iff, List.isPrefixOf_iff_prefix]
  constructor
  · rintro ⟨h1, h2⟩
    exact ⟨Q.drop b.length, by
      have := List.take_append_drop b.length Q
      rwa [h2] at this⟩
  · rintro ⟨r, rfl⟩
    simp
def numI (n : Int) : List Nat := if n < 0 then 45 :: TL.numL n.natAbs else TL.numL n.natAbs
theorem toStr_num (n : Int) : (toString n : Str) = tS (numI n) := by
  refine TL.ext_tl ?_
  rw [show TL.tl (tS (numI n)) = numI n from tS_tl _]
  unfold numI
  split
  · rename_i h
    have e : (toString n : String) = "-" ++ toString (0 - n) := PyProof.Rows.toString_neg h
    show TL.tl (Str.ofString (toString n)) = _
    rw [e]
    have e2 : (0 - n) = (n.natAbs : Int) := by omega
    rw [e2]
    have h1 := TL.tl_num n.natAbs
    rw [Str.ofString_eq_toList] at h1 ⊢
    rw [String.toList_append, List.map_append]
    have h2 : TL.tl (⟨(("-" : String).toList.map Char.toNat ++ (toString (n.natAbs : Int)).toList.map Char.toNat).toArray⟩ : Str) = ("-" : String).toList.map Char.toNat ++ (toString (n.natAbs : Int)).toList.map Char.toNat := by
      show Array.toList _ = _
      simp
    rw [h2]
    have h3 : TL.tl (⟨((toString (n.natAbs : Int)).toList.map Char.toNat).toArray⟩ : Str) = (toString (n.natAbs : Int)).toList.map Char.toNat := by
      show Array.toList _ = _
      simp
    rw [h3] at h1
    rw [h1]
    rfl
  · rename_i h
    have e : n = (n.natAbs : Int) := by omega
    rw [e]
    exact TL.tl_num n.natAbs
theorem numL_head : ∀ n : Nat, ∃ c r, TL.numL n = c :: r ∧ 48 ≤ c ∧ c ≤ 57 ∧ (c = 48 → n = 0 ∧ r = []) := by
  intro n
  induction n using Nat.strongRecOn with
  | _ n ih =>
    by_cases h : n < 10
    · exact ⟨48 + n, [], TL.numL_lt h, by omega, by omega, fun e => ⟨by omega, rfl⟩⟩
    · obtain ⟨c, r, e, h1, h2, h3⟩ := ih (n / 10) (by omega)
      rw [TL.numL_step (by omega), e]
      exact ⟨c, r ++ [48 + n % 10], rfl, h1, h2, fun e0 => by
        have := (h3 e0).1
        omega⟩
theorem numI_free {n : Int} {c : Nat} (h : c ∈ numI n) : c = 45 ∨ (48 ≤ c ∧ c ≤ 57) := by
  unfold numI at h
  split at h
  · rcases List.mem_cons.mp h with h | h
    · exact .inl h
    · exact .inr (TL.numL_digits _ c h)
  · exact .inr (TL.numL_digits _ c h)
theorem numI_ne (n : Int) : numI n ≠ [] := by
  unfold numI
  split
  · simp
  · exact TL.numL_ne _
theorem numI_len {n : Int} {k : Nat} (hk : 0 < k) (h : n.natAbs < 10 ^ k) : (numI n).length ≤ k + 1 := by
  have := TL.numL_len hk h
  unfold numI
  split <;> simp <;> omega
theorem gStr_tS {n : Int} (h : n.natAbs < 2 ^ 1000) : gStr (.int n) = some (.sh (.str (tS (numI n)))) := by
  have : n.natAbs.log2 < 1920 := Nat.lt_of_lt_of_le (log2_small (n := 1000) h (by decide)) (by decide)
  show (if n.natAbs.log2 < 1920 then some (Val.sh (.str (toString n))) else none) = _
  rw [if_pos this, toStr_num]
theorem intText_num {n : Int} (h : (numI n).length ≤ 640) : PySem.intText? (tS (numI n)) = some n := by
  by_cases h0 : n < 0
  · have e : numI n = 45 :: TL.numL n.natAbs := by unfold numI; rw [if_pos h0]
    have := PySem.intText_neg (x := tS (numI n)) (cs := TL.numL n.natAbs) (by rw [tS_tl, e]) (TL.numL_digits _) (TL.numL_ne _) (by rw [tS_len]; omega)
    rw [this, TL.numL_val]
    congr 1
    omega
  · have e : numI n = TL.numL n.natAbs := by unfold numI; rw [if_neg h0]
    have := PySem.intText_digits (x := tS (numI n)) (by rw [tS_tl, e]; exact TL.numL_digits _) (by rw [tS_tl, e]; exact TL.numL_ne _) (by rw [tS_len]; omega)
    rw [this, tS_tl, e, TL.numL_val]
    congr 1
    omega
theorem gIntS_tS {n : Int} (h : (numI n).length ≤ 640) : gIntS (.str (tS (numI n))) = some (.sh (.int n)) := by
  show ((PySem.intText? (tS (numI n))).bind fun m => if (tS (numI n)).length ≤ 640 then some (Val.sh (.int m)) else none) = _
  rw [intText_num h, Option.bind_some, tS_len, if_pos h]
def joinS (sep : List Nat) : List (List Nat) → List Nat
  | [] => []
  | [p] => p
  | p :: q :: r => p ++ (sep ++ joinS sep (q :: r))
theorem join_tS (sep : List Nat) : ∀ xs : List (List Nat), Str.join (tS sep) (xs.map tS) = tS (joinS sep xs)
  | [] => rfl
  | [p] => rfl
  | p :: q :: r => by
    show tS p ++ tS sep ++ Str.join (tS sep) (tS q :: r.map tS) = _
    have := join_tS sep (q :: r)
    rw [List.map_cons] at this
    rw [this, tS_app, tS_app, List.append_assoc]
    rfl
theorem strsOf_tS : ∀ xs : List (List Nat), strsOf ((xs.map tS).map .str) = some (xs.map tS)
  | [] => rfl
  | x :: xs => by
    have := strsOf_tS xs
    simp only [List.map_cons, strsOf, this, Option.map_some, Option.bind_some]
theorem gJoin_tS {sep : List Nat} {xs : List (List Nat)} (h : (xs.map List.length).sum + xs.length * sep.length ≤ 16777216) : gJoin (tS sep) (.lst ((xs.map tS).map .str)) = some (.sh (.str (tS (joinS sep xs)))) := by
  show ((strsOf ((xs.map tS).map .str)).bind fun ys => if (ys.map (·.length)).sum + ys.length * (tS sep).length ≤ 16777216 then some (Val.sh (.str (Txt.join (tS sep) ys))) else none) = _
  rw [strsOf_tS, Option.bind_some]
  have e : ((xs.map tS).map (·.length)) = xs.map List.length := by
    rw [List.map_map]
    exact List.map_congr_left fun x _ => tS_len x
  rw [e, List.length_map, tS_len, if_pos h]
  rw [TL.join_eq, join_tS]
theorem gEq_tS (a b : List Nat) : gEq (.str (tS a)) (.str (tS b)) = some (.sh (.bl (decide (a = b)))) := by
  rw [gEq_str]
  congr 4
  exact propext ⟨tS_inj, fun e => e ▸ rfl⟩
end Wp
namespace Wp
open PySem PySem.Spec PyProof.Rows L2
def tFirst : List Nat := [102,105,114,115,116]
def tLast : List Nat := [108,97,115,116]
def tRank : List Nat := [114,97,110,107,32]
def tNow : List Nat := [110,111,119,32]
@[simp] theorem tFirst_len : tFirst.length = 5 := rfl
@[simp] theorem tLast_len : tLast.length = 4 := rfl
@[simp] theorem tRank_len : tRank.length = 5 := rfl
@[simp] theorem tNow_len : tNow.length = 4 := rfl
theorem s_first : ("first" : Str) = tS tFirst := by decide +kernel
theorem s_last : ("last" : Str) = tS tLast := by decide +kernel
theorem s_rank : ("rank" : Str) = tS [114,97,110,107] := by decide +kernel
theorem s_rank_ : ("rank " : Str) = tS tRank := by decide +kernel
theorem s_now_ : ("now " : Str) = tS tNow := by decide +kernel
theorem s_bl : (" " : Str) = tS [32] := by decide +kernel
theorem s_op : ("(" : Str) = tS [40] := by decide +kernel
theorem s_cl : (")" : Str) = tS [41] := by decide +kernel
theorem s_cm : (", " : Str) = tS [44,32] := by decide +kernel
def Kd.tx : Kd → List Nat
  | .first => tFirst
  | .last => tLast
  | .rank k => tRank ++ numI k
mutual
def Trm.tx : Trm → List Nat
  | .part false x n => (x.cps.toList ++ [32]) ++ numI n
  | .part true x n => ((tNow ++ x.cps.toList) ++ [32]) ++ numI n
  | .grp k ts => ((k.tx ++ [40]) ++ joinS [44,32] (Trm.txs ts)) ++ [41]
def Trm.txs : List Trm → List (List Nat)
  | [] => []
  | t :: ts => t.tx :: Trm.txs ts
end
theorem Trm.txs_map : ∀ ts : List Trm, Trm.txs ts = ts.map Trm.tx
  | [] => rfl
  | t :: ts => by rw [Trm.txs, Trm.txs_map ts, List.map_cons]
mutual
/-- waits of few figures -/
def Trm.wok : Trm → Bool
  | .part _ _ n => decide (n.natAbs < 10 ^ 30)
  | .grp _ ts => Trm.woks ts
def Trm.woks : List Trm → Bool
  | [] => true
  | t :: ts => t.wok && Trm.woks ts
end
theorem Trm.woks_all : ∀ {ts : List Trm}, Trm.woks ts = true ↔ ∀ t ∈ ts, t.wok = true
  | [] => by simp [Trm.woks]
  | t :: ts => by simp [Trm.woks, Trm.woks_all (ts := ts)]
theorem joinS_len (sep : List Nat) : ∀ xs : List (List Nat), xs ≠ [] → (joinS sep xs).length + sep.length = (xs.map List.length).sum + xs.length * sep.length
  | [], h => absurd rfl h
  | [p], _ => by simp [joinS]
  | p :: q :: r, _ => by
    have := joinS_len sep (q :: r) (by simp)
    simp only [joinS, List.length_append, List.map_cons, List.sum_cons, List.length_cons] at this ⊢
    rw [Nat.add_mul (r.length + 1) 1 sep.length]
    omega
theorem joinS_mem {sep : List Nat} : ∀ {xs : List (List Nat)} {x : List Nat}, x ∈ xs → x.length ≤ (joinS sep xs).length
  | [], _, h => nomatch h
  | [p], x, h => by
    obtain rfl : x = p := by simpa using h
    exact Nat.le_refl _
  | p :: q :: r, x, h => by
    simp only [joinS, List.length_append]
    rcases List.mem_cons.mp h with rfl | h
    · omega
    · have := joinS_mem (sep := sep) h
      omega
theorem addL {s : Str} {a b : List Nat} (hs : s = tS a) (h : a.length + b.length ≤ 16777216) : gAdd (.str s) (.str (tS b)) = some (.sh (.str (tS (a ++ b)))) := hs ▸ gAdd_tS h
theorem addR {s : Str} {a b : List Nat} (hs : s = tS b) (h : a.length + b.length ≤ 16777216) : gAdd (.str (tS a)) (.str s) = some (.sh (.str (tS (a ++ b)))) := hs ▸ gAdd_tS h
/-- a term that is written in few signs -/
structure Trm.few (t : Trm) : Prop where
  fit : t.fit 25
  wok : t.wok = true
  len : t.tx.length ≤ 100000
theorem Trm.few.grp {k : Kd} {ts : List Trm} (h : (Trm.grp k ts).few) : ts ≠ [] ∧ k.ok ts.length = true ∧ ts.length < 2000 ∧ (∀ t ∈ ts, t.few) ∧ (ts.map fun t => t.tx.length).sum + ts.length * 2 ≤ 100002 := by
  obtain ⟨t0, hk, tl, tf⟩ := h.fit.grp
  have hl := h.len
  simp only [Trm.tx, List.length_append, Trm.txs_map] at hl
  refine ⟨t0, hk, tl, fun t ht => ⟨(tf t ht).mono (by decide), ?_, ?_⟩, ?_⟩
  · have := h.wok
    simp only [Trm.wok] at this
    exact Trm.woks_all.mp this t ht
  · have := joinS_mem (sep := [44,32]) (List.mem_map.mpr ⟨t, ht, rfl⟩ : t.tx ∈ ts.map Trm.tx)
    omega
  · have := joinS_len [44,32] (ts.map Trm.tx) (by simpa using t0)
    rw [List.map_map, List.length_map] at this
    have e : (List.length ∘ Trm.tx) = fun t : Trm => t.tx.length := rfl
    rw [e] at this
    simp only [List.length_cons, List.length_nil] at this
    omega
end Wp
end
section
set_option Elab.async false
set_option linter.all false
set_option maxRecDepth 100000
set_option maxHeartbeats 1000000
namespace Wp
open PySem PySem.Spec PyProof.Rows L2
mutual
def D.sml : D → Bool
  | .non => true
  | .bl _ => true
  | .int i => decide (i.natAbs < 10 ^ 30)
  | .str x => PyData.strOk x
  | .lst xs => D.smls xs
  | .tup xs => D.smls xs
  | .dict _ _ => false
  | .dt _ _ => false
  | .fn _ => false
  | .rng _ _ => false
  | .obj _ _ _ => false
def D.smls : List D → Bool
  | [] => true
  | x :: xs => x.sml && D.smls xs
end
mutual
def D.wt : D → Nat
  | .non => 0
  | .bl _ => 0
  | .int _ => 101
  | .str x => x.length
  | .lst xs => D.wts xs
  | .tup xs => D.wts xs
  | .dict _ _ => 0
  | .dt _ _ => 0
  | .fn _ => 0
  | .rng _ _ => 0
  | .obj _ _ _ => 0
def D.wts : List D → Nat
  | [] => 0
  | x :: xs => x.wt + 1 + D.wts xs
end
mutual
theorem D.sml_py : ∀ {d : D}, d.sml = true → ∃ p, toPy d = some p ∧ p.showable = true ∧ p.leavesShort 61 = true ∧ p.weight ≤ d.wt ∧ p.depth = d.dp
  | .non, _ => ⟨.none, rfl, rfl, rfl, by simp [PyData.weight], rfl⟩
  | .bl b, _ => ⟨.bool b, rfl, rfl, rfl, by simp [PyData.weight], rfl⟩
  | .int i, h => by
    have h := of_decide_eq_true (show decide (i.natAbs < 10 ^ 30) = true by simpa [D.sml] using h)
    have g : i.natAbs.log2 < 100 := Nat.lt_of_lt_of_le (log2_small (j := i) (n := 100) (by omega) (by decide)) (by decide)
    refine ⟨.int i, rfl, ?_, ?_, ?_, rfl⟩
    · simp only [PyData.showable]
      exact decide_eq_true (by omega)
    · have e := int_text_length_le10 (k := 60) (by decide) (show i.natAbs < 10 ^ 60 by omega)
      simp only [PyData.leavesShort]
      refine decide_eq_true ?_
      show (Str.ofString (toString i)).length ≤ 61
      rw [PySem.ofString_length]
      exact e
    · simp only [PyData.weight, D.wt]
      split <;> omega
  | .str x, h => by
    refine ⟨.str x, rfl, rfl, ?_, ?_, rfl⟩
    · have h : x.cps.all (fun c => decide (c < 0x110000)) = true := by simpa [D.sml, PyData.strOk] using h
      rw [Array.all_eq_true_iff_forall_mem] at h
      simp only [PyData.leavesShort, List.all_eq_true, decide_eq_true_eq]
      intro c hc
      have := of_decide_eq_true (h c (Array.mem_toList_iff.mp hc))
      omega
    · simp only [PyData.weight, D.wt]
      exact Nat.le_refl _
  | .lst xs, h => by
    obtain ⟨ps, e, h1, h2, h3, h4⟩ := D.smls_py (ds := xs) (by simpa [D.sml] using h)
    exact ⟨.list ps, by simp [toPy, e], by simpa [PyData.showable] using h1, by simpa [PyData.leavesShort] using h2, by simpa [PyData.weight, D.wt] using h3, by simp [PyData.depth, D.dp, h4]⟩
  | .tup xs, h => by
    obtain ⟨ps, e, h1, h2, h3, h4⟩ := D.smls_py (ds := xs) (by simpa [D.sml] using h)
    exact ⟨.tuple ps, by simp [toPy, e], by simpa [PyData.showable] using h1, by simpa [PyData.leavesShort] using h2, by simpa [PyData.weight, D.wt] using h3, by simp [PyData.depth, D.dp, h4]⟩
theorem D.smls_py : ∀ {ds : List D}, D.smls ds = true → ∃ ps, toPys ds = some ps ∧ PyData.showableAll ps = true ∧ PyData.leavesShortAll 61 ps = true ∧ PyData.weightAll ps ≤ D.wts ds ∧ PyData.depthAll ps = D.dps ds
  | [], _ => ⟨[], rfl, rfl, rfl, Nat.le_refl _, rfl⟩
  | d :: ds, h => by
    have h : d.sml = true ∧ D.smls ds = true := by simpa [D.smls] using h
    obtain ⟨p, e, a1, a2, a3, a4⟩ := D.sml_py h.1
    obtain ⟨ps, e', b1, b2, b3, b4⟩ := D.smls_py h.2
    exact ⟨p :: ps, by simp [toPys, e, e'], by simp [PyData.showableAll, a1, b1], by simp [PyData.leavesShortAll, a2, b2], by simp only [PyData.weightAll, D.wts]; omega, by simp [PyData.depthAll, D.dps, a4, b4]⟩
end
theorem repr_sml {d : D} (h : d.sml = true) (h1 : d.dp ≤ 60) (h2 : d.wt ≤ 200000) : ∃ s, gRepr d = some (.sh (.str s)) := by
  obtain ⟨p, e, a1, a2, a3, a4⟩ := D.sml_py h
  have := PyData.shown_le 61 (by decide) p a2
  refine ⟨p.shown, ?_⟩
  unfold gRepr
  rw [e, Option.bind_some, if_pos]
  unfold showOk
  have l2 : p.shown.length ≤ sizeLine := by rw [sizeLine_eq]; omega
  simp [a1, a4, h1, l2]
mutual
theorem Trm.sml : ∀ {t : Trm}, t.few → t.d.sml = true
  | .part w x n, h => by
    have h1 : PyData.strOk x = true := okName_strOk (by simpa [Trm.ok] using h.fit.ok)
    have h2 : PyData.strOk (wd w) = true := by cases w <;> decide +kernel
    have h3 : decide (n.natAbs < 10 ^ 30) = true := by simpa only [Trm.wok] using h.wok
    simp only [Trm.d, D.sml, D.smls, h1, h2, h3, Bool.and_self]
  | .grp k ts, h => by
    obtain ⟨t0, hk, tl, tf, _⟩ := h.grp
    have h' := Trm.smls (ts := ts) tf
    have e1 : PyData.strOk ("first" : Str) = true := by decide +kernel
    have e2 : PyData.strOk ("last" : Str) = true := by decide +kernel
    have e3 : PyData.strOk ("rank" : Str) = true := by decide +kernel
    cases k with
    | rank j =>
      simp only [Kd.ok, Bool.and_eq_true, decide_eq_true_eq] at hk
      have hj : j.natAbs < 10 ^ 30 := Nat.lt_of_lt_of_le (show j.natAbs < 2000 by omega) (by decide +kernel)
      simp only [Trm.d, grpD, D.sml, D.smls, h', e3, decide_eq_true hj, Bool.and_self]
    | first => simp only [Trm.d, grpD, D.sml, D.smls, h', e1, Bool.and_self]
    | last => simp only [Trm.d, grpD, D.sml, D.smls, h', e2, Bool.and_self]
theorem Trm.smls : ∀ {ts : List Trm}, (∀ t ∈ ts, t.few) → D.smls (Trm.ds ts) = true
  | [], _ => rfl
  | t :: ts, h => by
    simp only [Trm.ds, D.smls, Bool.and_eq_true]
    exact ⟨Trm.sml (h t List.mem_cons_self), Trm.smls fun s hs => h s (List.mem_cons_of_mem _ hs)⟩
end
theorem Str.len_tl (x : Str) : x.cps.toList.length = x.length := by
  have := tS_len x.cps.toList
  rw [of_tS] at this
  exact this.symm
mutual
theorem Trm.wt_le : ∀ {t : Trm}, t.few → t.d.wt ≤ 100 * t.tx.length
  | .part w x n, h => by
    have h1 := numI_ne n
    have h2 : 0 < (numI n).length := List.length_pos_iff.mpr h1
    have h3 := Str.len_tl x
    have h4 : (wd w).length ≤ 3 := by cases w <;> decide
    have h5 := (okName_len (by simpa [Trm.ok] using h.fit.ok : okName x = true)).1
    simp only [Trm.d, D.wt, D.wts]
    cases w <;> simp only [Trm.tx, List.length_append, List.length_cons, List.length_nil, tNow_len, h3] at * <;> omega
  | .grp k ts, h => by
    obtain ⟨t0, hk, tl, tf, _⟩ := h.grp
    have h' := Trm.wts_le (ts := ts) tf
    have hj := joinS_len [44,32] (ts.map Trm.tx) (by simpa using t0)
    rw [List.map_map, List.length_map] at hj
    have e : (List.length ∘ Trm.tx) = fun t : Trm => t.tx.length := rfl
    rw [e] at hj
    have hp : 0 < ts.length := List.length_pos_iff.mpr t0
    have e1 : ("first" : Str).length = 5 := rfl
    have e2 : ("last" : Str).length = 4 := rfl
    have e3 : ("rank" : Str).length = 4 := rfl
    simp only [Trm.tx, Trm.txs_map]
    cases k with
    | rank j =>
      have h2 : 0 < (numI j).length := List.length_pos_iff.mpr (numI_ne j)
      simp only [Trm.d, grpD, D.wt, D.wts, e3, Kd.tx, List.length_append, List.length_cons, List.length_nil, tRank_len] at *
      omega
    | first =>
      simp only [Trm.d, grpD, D.wt, D.wts, e1, Kd.tx, List.length_append, List.length_cons, List.length_nil, tFirst_len] at *
      omega
    | last =>
      simp only [Trm.d, grpD, D.wt, D.wts, e2, Kd.tx, List.length_append, List.length_cons, List.length_nil, tLast_len] at *
      omega
theorem Trm.wts_le : ∀ {ts : List Trm}, (∀ t ∈ ts, t.few) → D.wts (Trm.ds ts) ≤ 100 * (ts.map fun t => t.tx.length).sum + ts.length
  | [], _ => by simp [Trm.ds, D.wts]
  | t :: ts, h => by
    have h1 := Trm.wt_le (h t List.mem_cons_self)
    have h2 := Trm.wts_le (ts := ts) fun s hs => h s (List.mem_cons_of_mem _ hs)
    simp only [Trm.ds, D.wts, List.map_cons, List.sum_cons, List.length_cons]
    omega
end
theorem Trm.repr {t : Trm} (h : t.few) (hl : t.tx.length ≤ 2000) : ∃ s, gRepr t.d = some (.sh (.str s)) :=
  repr_sml (Trm.sml h) (by have := Trm.d_dp t; have := h.fit.dep; omega) (by have := Trm.wt_le h; omega)
end Wp
end
section
set_option Elab.async false
set_option linter.all false
set_option maxRecDepth 100000
set_option maxHeartbeats 0
namespace L94
open PySem PySem.Spec PyProof.Rows L2 Wp
def bt_Rule : List (String × Bool) := [("NoneType", false), ("bool", false), ("int", false), ("str", false), ("tuple", false), ("list", false), ("dict", false)]
def ct_Rule : List (Nat × Bool) := [(0, true)]
def cs_Rule : List (Str × Bool) := [("Rule", true)]
def bt_bool : List (String × Bool) := [("NoneType", false), ("bool", true), ("int", false), ("str", false), ("tuple", false), ("list", false), ("dict", false)]
def ct_bool : List (Nat × Bool) := [(0, false)]
def cs_bool : List (Str × Bool) := [("Rule", false)]
def bt_int : List (String × Bool) := [("NoneType", false), ("bool", true), ("int", true), ("str", false), ("tuple", false), ("list", false), ("dict", false)]
def ct_int : List (Nat × Bool) := [(0, false)]
def cs_int : List (Str × Bool) := [("Rule", false)]
def bt_list : List (String × Bool) := [("NoneType", false), ("bool", false), ("int", false), ("str", false), ("tuple", false), ("list", true), ("dict", false)]
def ct_list : List (Nat × Bool) := [(0, false)]
def cs_list : List (Str × Bool) := [("Rule", false)]
def bt_str : List (String × Bool) := [("NoneType", false), ("bool", false), ("int", false), ("str", true), ("tuple", false), ("list", false), ("dict", false)]
def ct_str : List (Nat × Bool) := [(0, false)]
def cs_str : List (Str × Bool) := [("Rule", false)]
def bt_tuple : List (String × Bool) := [("NoneType", false), ("bool", false), ("int", false), ("str", false), ("tuple", true), ("list", false), ("dict", false)]
def ct_tuple : List (Nat × Bool) := [(0, false)]
def cs_tuple : List (Str × Bool) := [("Rule", false)]
def fc_form : Nat → Bool := fun c => decide (c < 1)
def pt_form : Nat → Option Fi := fun _ => none
def c_LETTERS : D := .str "abcdefghijklmnopqrstuvwxyz"
def F__law_purse : FF := semF 2 3 [0, 1] true
    (fSeq (fSet 2 (fn (fCons (fSlice (fVar 0) (some (fVar 1)) (some (f2 (fVar 1) (fLit (.int 1)) (p2 gAdd)))) fNil) (p1 gSum)))
      (fRet (fDisp .ol (fCons (f2 (fn (fCons (f2 (fVar 2) (f2 (fLit (.int 10)) (fLit (.int 18)) (p2 gPow)) (p2 gSub)) (fCons (fLit (.int 0)) fNil)) (p2 gMx2)) (f2 (f2 (fLit (.int 10)) (fLit (.int 60)) (p2 gPow)) (fLit (.int 8)) (p2 gPow)) (p2 gMod)) (fCons (f2 (fVar 2) (fLit (.int 2147483629)) (p2 gMod)) (fCons (fLit (.int 0)) (fCons (fVar 1) fNil)))))))
def i__law_purse : Fi := ⟨F__law_purse, 2, [false, false], []⟩
abbrev c__law_purses_1 : FO := (fLc 3 [2] (fRng1 (fCons (fn (fCons (fLit (.int 1)) (fCons (fn (fCons (fVar 1) (fCons (fn (fCons (fVar 0) fNil) (p1 gLen)) fNil)) (p2 gMn2)) fNil)) (p2 gMx2)) fNil)) (gNm 2) fYes (fCallN i__law_purse 2 (fCons (fVar 0) (fCons (fVar 2) fNil))))
def F__law_purses : FF := semF 2 3 [0, 1] true
    (fRet c__law_purses_1)
def i__law_purses : Fi := ⟨F__law_purses, 2, [false, false], []⟩
def F__law_mixed : FF := semF 3 4 [0, 1, 2] false
    (fSeq (fSet 3 (f2 (f2 (fVar 0) (fLit (.int 69069)) (p2 gMul)) (f2 (f2 (fLit (.int 104729)) (fVar 1) (p2 gMul)) (fVar 1) (p2 gMul)) (p2 gAdd)))
      (fSeq (fSet 3 (f2 (f2 (f2 (fVar 3) (f2 (fLit (.int 7919)) (fVar 2) (p2 gMul)) (p2 gAdd)) (fVar 1) (p2 gAdd)) (fLit (.int 2147483647)) (p2 gMod)))
      (fSeq (fSet 3 (f2 (f2 (f2 (fVar 3) (fVar 3) (p2 gMul)) (fLit (.int 40503)) (p2 gAdd)) (fLit (.int 2147483629)) (p2 gMod)))
      (fRet (f2 (f2 (fVar 3) (fLit (.int 48271)) (p2 gMul)) (fLit (.int 2147483587)) (p2 gMod))))))
def i__law_mixed : Fi := ⟨F__law_mixed, 3, [false, false, false], []⟩
abbrev b__law_draw_1 : FS := (fSeq (fSetI 0 (f2 (f2 (fVar 0) (fLit (.int 2)) (p2 gSub2)) (fLit (.int 1)) (p2 gAdd)) (fLit (.int 2)))
      (fSet 3 (f2 (f2 (fVar 3) (fLit (.int 2147483587)) (p2 gMul)) (fCallN i__law_mixed 3 (fCons (f2 (fVar 0) (fLit (.int 1)) (p2 gSub2)) (fCons (f2 (fVar 0) (fLit (.int 2)) (p2 gSub2)) (fCons (f2 (fVar 0) (fLit (.int 3)) (p2 gSub2)) fNil)))) (p2 gAdd))))
def F__law_draw : FF := semF 2 5 [0, 1] false
    (fSeq (fIf (fBl (f2 (f2 (fVar 0) (fLit (.int 0)) (p2 gSub2)) (fLit (.int 0)) (p2 (gCmp (cmpF .Gt))))) (fSeq (fSet 2 (f2 (f2 (fVar 0) (fLit (.int 0)) (p2 gSub2)) (fVar 1) (p2 gMod)))
      (fSeq (fSetI 0 (f2 (f2 (fVar 0) (fLit (.int 0)) (p2 gSub2)) (fVar 1) (p2 gDiv)) (fLit (.int 0)))
      (fRet (fVar 2)))) fNext)
      (fSeq (fSet 3 (fLit (.int 0)))
      (fSeq (fFor (gNm 4) b__law_draw_1 (fRng1 (fCons (f2 (fLit (.int 1)) (f2 (f1 (fVar 1) (p1 gBits)) (fLit (.int 28)) (p2 gDiv)) (p2 gAdd)) fNil)))
      (fRet (f2 (fVar 3) (fVar 1) (p2 gMod))))))
def i__law_draw : Fi := ⟨F__law_draw, 2, [true, false], []⟩
abbrev b__law_shuffled_1 : FS := (fExpr (fIns 2 (fCons (fCallN i__law_draw 2 (fCons (fVar 0) (fCons (f2 (fn (fCons (fVar 2) fNil) (p1 gLen)) (fLit (.int 1)) (p2 gAdd)) fNil))) (fCons (fVar 3) fNil))))
def F__law_shuffled : FF := semF 2 4 [0, 1] false
    (fSeq (fSet 2 (fDisp .ol fNil))
      (fSeq (fFor (gNm 3) b__law_shuffled_1 (fSeqI (fVar 1)))
      (fRet (fVar 2))))
def i__law_shuffled : Fi := ⟨F__law_shuffled, 2, [true, false], []⟩
abbrev b__law_word_1 : FS := (fSet 1 (f2 (fVar 1) (f2 (fLit (.str "abcdefghijklmnopqrstuvwxyz")) (fCallN i__law_draw 2 (fCons (fVar 0) (fCons (fLit (.int 26)) fNil))) (p2 gSub2)) (p2 gAdd)))
def F__law_word : FF := semF 1 3 [0] false
    (fSeq (fSet 1 (fLit (.str "")))
      (fSeq (fFor (gNm 2) b__law_word_1 (fRng1 (fCons (f2 (fLit (.int 1)) (fCallN i__law_draw 2 (fCons (fVar 0) (fCons (fLit (.int 8)) fNil))) (p2 gAdd)) fNil)))
      (fRet (fVar 1))))
def i__law_word : Fi := ⟨F__law_word, 1, [true], []⟩
def F__law_one_of : FF := semF 2 2 [0, 1] false
    (fRet (f2 (fVar 1) (fCallN i__law_draw 2 (fCons (fVar 0) (fCons (fn (fCons (fVar 1) fNil) (p1 gLen)) fNil))) (p2 gSub2)))
def i__law_one_of : Fi := ⟨F__law_one_of, 2, [true, false], []⟩
def F__law_wait : FF := semF 1 2 [0] false
    (fSeq (fSet 1 (fDisp .ol (fCons (fLit (.int 0)) (fCons (fLit (.int 0)) (fCons (fLit (.int 1)) (fCons (fLit (.int 2)) (fCons (fLit (.int 3)) (fCons (f1 (fLit (.int 1)) (p1 gNeg)) (fCons (f1 (fLit (.int 2)) (p1 gNeg)) (fCons (f2 (fCallN i__law_draw 2 (fCons (fVar 0) (fCons (fLit (.int 19)) fNil))) (fLit (.int 9)) (p2 gSub)) fNil))))))))))
      (fSeq (fSet 1 (f2 (fVar 1) (fDisp .ol (fCons (f2 (fCallN i__law_draw 2 (fCons (fVar 0) (fCons (f2 (fLit (.int 10)) (fLit (.int 9)) (p2 gPow)) fNil))) (f2 (fLit (.int 10)) (fLit (.int 8)) (p2 gPow)) (p2 gSub)) (fCons (f2 (f2 (fLit (.int 10)) (fLit (.int 11)) (p2 gPow)) (fCallN i__law_draw 2 (fCons (fVar 0) (fCons (fLit (.int 9)) fNil))) (p2 gAdd)) fNil))) (p2 gAdd)))
      (fRet (fCallN i__law_one_of 2 (fCons (fVar 0) (fCons (fSlice (fVar 1) none (some (f2 (fLit (.int 7)) (fCallN i__law_draw 2 (fCons (fVar 0) (fCons (fLit (.int 4)) fNil))) (p2 gAdd)))) fNil))))))
def i__law_wait : Fi := ⟨F__law_wait, 1, [true], []⟩
abbrev c__law_over_1 : FO := (fLc 3 [2] (fRng1 (fCons (fn (fCons (fVar 0) fNil) (p1 gLen)) fNil)) (gNm 2) fYes (fDisp .ot (fCons (fLit (.str "rank")) (fCons (f2 (fVar 2) (fLit (.int 1)) (p2 gAdd)) (fCons (fVar 0) fNil)))))
def F__law_over : FF := semF 1 3 [0] false
    (fSeq (fSet 1 (fDisp .ol (fCons (fDisp .ot (fCons (fLit (.str "first")) (fCons (fVar 0) fNil))) (fCons (fDisp .ot (fCons (fLit (.str "last")) (fCons (fVar 0) fNil))) fNil))))
      (fRet (f2 (fVar 1) c__law_over_1 (p2 gAdd))))
def i__law_over : Fi := ⟨F__law_over, 1, [false], []⟩
abbrev c__law_terms_1 : FO := (fLc 11 [10] (fSeqI (fVar 2)) (gNm 10) fYes (fDisp .ot (fCons (fVar 4) (fCons (fVar 5) (fCons (fVar 10) fNil)))))
abbrev b__law_terms_1 : FS := (fSet 3 (f2 (fVar 3) c__law_terms_1 (p2 gAdd)))
abbrev b__law_terms_2 : FS := (fFor (gNm 5) b__law_terms_1 (fSeqI (fVar 1)))
abbrev b__law_terms_3 : FS := (fSet 6 (f2 (fVar 6) (fCallN i__law_over 1 (fCons (fDisp .ol (fCons (fVar 7) fNil)) fNil)) (p2 gAdd)))
abbrev b__law_terms_4 : FS := (fSet 6 (f2 (fVar 6) (fCallN i__law_over 1 (fCons (fDisp .ol (fCons (fVar 7) (fCons (fVar 8) fNil))) fNil)) (p2 gAdd)))
abbrev b__law_terms_5 : FS := (fFor (gNm 8) b__law_terms_4 (fSeqI (fSlice (fVar 3) (some (fLit (.int 2))) (some (fLit (.int 5))))))
abbrev b__law_terms_6 : FS := (fSet 6 (f2 (f2 (f2 (fVar 6) (fCallN i__law_over 1 (fCons (fDisp .ol (fCons (fVar 9) fNil)) fNil)) (p2 gAdd)) (fCallN i__law_over 1 (fCons (fDisp .ol (fCons (fVar 9) (fCons (f2 (fVar 3) (f1 (fLit (.int 1)) (p1 gNeg)) (p2 gSub2)) fNil))) fNil)) (p2 gAdd)) (fCallN i__law_over 1 (fCons (fDisp .ol (fCons (f2 (fVar 3) (f1 (fLit (.int 1)) (p1 gNeg)) (p2 gSub2)) (fCons (fVar 9) fNil))) fNil)) (p2 gAdd)))
def F__law_terms : FF := semF 1 11 [0] false
    (fSeq (fPar 1 2 (fCons (fSlice (fCallN i__law_shuffled 2 (fCons (fVar 0) (fCons (fDisp .ol (fCons (fLit (.str "now")) (fCons (fLit (.str "rank")) (fCons (fLit (.str "first")) (fCons (fLit (.str "a")) (fCons (fCallN i__law_word 1 (fCons (fVar 0) fNil)) fNil)))))) fNil))) none (some (fLit (.int 2)))) (fCons (fDisp .ol (fCons (fLit (.int 0)) (fCons (fCallN i__law_wait 1 (fCons (fVar 0) fNil)) fNil))) fNil)))
      (fSeq (fSet 3 (fDisp .ol fNil))
      (fSeq (fFor (gNm 4) b__law_terms_2 (fSeqI (fDisp .ot (fCons (fLit (.str "of")) (fCons (fLit (.str "now")) fNil)))))
      (fSeq (fSet 6 (fn (fCons (fVar 3) fNil) (p1 gList)))
      (fSeq (fFor (gNm 7) b__law_terms_3 (fSeqI (fVar 3)))
      (fSeq (fFor (gNm 7) b__law_terms_5 (fSeqI (fSlice (fVar 3) none (some (fLit (.int 3))))))
      (fSeq (fFor (gNm 9) b__law_terms_6 (fSeqI (fCallN i__law_over 1 (fCons (fDisp .ol (fCons (f2 (fVar 3) (fLit (.int 0)) (p2 gSub2)) (fCons (f2 (fVar 3) (fLit (.int 1)) (p2 gSub2)) fNil))) fNil))))
      (fRet (fVar 6)))))))))
def i__law_terms : Fi := ⟨F__law_terms, 1, [true], []⟩
def F_check_rule : FF := semF 1 1 [0] false
    (fIf (fNotT (fTru (f1 (fVar 0) (p1 (gIsi bt_Rule ct_Rule))))) fNever fNext)
def i_check_rule : Fi := ⟨F_check_rule, 1, [false], []⟩
abbrev c_term_text_1 (R_term_text : FF) : FO := (fLc 3 [2] (fSeqI (f2 (fVar 0) (f1 (fLit (.int 1)) (p1 gNeg)) (p2 gSub2))) (gNm 2) fYes (fCallN ⟨R_term_text, 1, [false], []⟩ 1 (fCons (fVar 2) fNil)))
def B_term_text (R_term_text : FF) : FF := semF 1 3 [0] false
    (fSeq (fIf (fBl (f2 (f2 (fVar 0) (fLit (.int 0)) (p2 gSub2)) (fLit (.str "of")) (p2 gEq))) (fRet (f2 (f2 (f2 (fVar 0) (fLit (.int 1)) (p2 gSub2)) (fLit (.str " ")) (p2 gAdd)) (fn (fCons (f2 (fVar 0) (fLit (.int 2)) (p2 gSub2)) fNil) (p1 gStr)) (p2 gAdd))) fNext)
      (fSeq (fIf (fBl (f2 (f2 (fVar 0) (fLit (.int 0)) (p2 gSub2)) (fLit (.str "now")) (p2 gEq))) (fRet (f2 (f2 (f2 (fLit (.str "now ")) (f2 (fVar 0) (fLit (.int 1)) (p2 gSub2)) (p2 gAdd)) (fLit (.str " ")) (p2 gAdd)) (fn (fCons (f2 (fVar 0) (fLit (.int 2)) (p2 gSub2)) fNil) (p1 gStr)) (p2 gAdd))) fNext)
      (fSeq (fSet 1 (fIte (fBl (f2 (f2 (fVar 0) (fLit (.int 0)) (p2 gSub2)) (fLit (.str "rank")) (p2 gEq))) (f2 (fLit (.str "rank ")) (fn (fCons (f2 (fVar 0) (fLit (.int 1)) (p2 gSub2)) fNil) (p1 gStr)) (p2 gAdd)) (f2 (fVar 0) (fLit (.int 0)) (p2 gSub2))))
      (fRet (f2 (f2 (f2 (fVar 1) (fLit (.str "(")) (p2 gAdd)) (f1 (c_term_text_1 R_term_text) (Wp.p1 (gJoin ", "))) (p2 gAdd)) (fLit (.str ")")) (p2 gAdd))))))
def F_term_text : Nat → FF
  | 0 => fun _ => none
  | n + 1 => B_term_text (F_term_text n)
def i_term_text (n : Nat) : Fi := ⟨F_term_text n, 1, [false], []⟩
theorem F_term_text_s (n : Nat) : F_term_text (n + 1) = B_term_text (F_term_text n) := rfl
def F_is_part : FF := semF 1 1 [0] false
    (fRet (f2 (f2 (fVar 0) (fLit (.int 0)) (p2 gSub2)) (fDisp .ot (fCons (fLit (.str "of")) (fCons (fLit (.str "now")) fNil))) (p2 (gIn false))))
def i_is_part : Fi := ⟨F_is_part, 1, [false], []⟩
def F_with_inside : FF := semF 2 2 [0, 1] false
    (fRet (fTadd (fSlice (fVar 0) none (some (f1 (fLit (.int 1)) (p1 gNeg)))) (fDisp .ot (fCons (fVar 1) fNil))))
def i_with_inside : Fi := ⟨F_with_inside, 2, [false, false], []⟩
abbrev c_copied_1 (R_copied : FF) : FO := (fLc 2 [1] (fSeqI (f2 (fVar 0) (f1 (fLit (.int 1)) (p1 gNeg)) (p2 gSub2))) (gNm 1) fYes (fCallN ⟨R_copied, 1, [false], []⟩ 1 (fCons (fVar 1) fNil)))
def B_copied (R_copied : FF) : FF := semF 1 2 [0] false
    (fRet (fIte (fTru (fCallN i_is_part 1 (fCons (fVar 0) fNil))) (fVar 0) (fCallN i_with_inside 2 (fCons (fVar 0) (fCons (c_copied_1 R_copied) fNil)))))
def F_copied : Nat → FF
  | 0 => fun _ => none
  | n + 1 => B_copied (F_copied n)
def i_copied (n : Nat) : Fi := ⟨F_copied n, 1, [false], []⟩
theorem F_copied_s (n : Nat) : F_copied (n + 1) = B_copied (F_copied n) := rfl
def F_Rule_term : FF := semF 1 1 [0] false
    (fRet (fCallN (i_copied 40) 1 (fCons (fAttr fc_form pt_form "form" (fVar 0)) fNil)))
def i_Rule_term : Fi := ⟨F_Rule_term, 1, [false], []⟩
def mt_term : Nat → Option Fi
  | 0 => some i_Rule_term
  | _ => none
def F_rule_text : FF := semF 1 1 [0] false
    (fSeq (fExpr (fCallN i_check_rule 1 (fCons (fVar 0) fNil)))
      (fRet (fCallN (i_term_text 40) 1 (fCons (fMeth mt_term "term" 0 (fVar 0) fNil) fNil))))
def i_rule_text : Fi := ⟨F_rule_text, 1, [false], []⟩
abbrev c_is_name_1 : FO := (fLc 2 [1] (fStrI (fVar 0)) (gNm 1) (fBl (f2 (fVar 1) (fLit c_LETTERS) (p2 (gIn true)))) (fVar 1))
def F_is_name : FF := semF 1 2 [0] false
    (fSeq (fIf (fOrT (fNotT (fTru (f1 (fVar 0) (p1 (gIsi bt_str ct_str))))) (fOrT (fBl (f2 (fn (fCons (fVar 0) fNil) (p1 gLen)) (fLit (.int 1)) (p2 (gCmp (cmpF .Lt))))) (fBl (f2 (fn (fCons (fVar 0) fNil) (p1 gLen)) (fLit (.int 8)) (p2 (gCmp (cmpF .Gt))))))) (fRet (fLit (.bl false))) fNext)
      (fRet (f2 c_is_name_1 (fDisp .ol fNil) (p2 gEq))))
def i_is_name : Fi := ⟨F_is_name, 1, [false], []⟩
def F_is_whole : FF := semF 1 1 [0] false
    (fRet (fAndV (f1 (fVar 0) (p1 (gIsi bt_int ct_int))) (fNotV (f1 (fVar 0) (p1 (gIsi bt_bool ct_bool))))))
def i_is_whole : Fi := ⟨F_is_whole, 1, [false], []⟩
abbrev c_are_terms_1 (R_are_terms : FF) (R_is_term : FF) : FO := (fLc 2 [1] (fSeqI (fVar 0)) (gNm 1) (fNotT (fTru (fCallN ⟨R_is_term, 1, [false], []⟩ 1 (fCons (fVar 1) fNil)))) (fVar 1))
def B_are_terms (R_are_terms : FF) (R_is_term : FF) : FF := semF 1 2 [0] false
    (fSeq (fIf (fOrT (fNotT (fTru (f1 (fVar 0) (p1 (gIsi bt_list ct_list))))) (fBl (f2 (fVar 0) (fDisp .ol fNil) (p2 gEq)))) (fRet (fLit (.bl false))) fNext)
      (fRet (f2 (c_are_terms_1 R_are_terms R_is_term) (fDisp .ol fNil) (p2 gEq))))
def B_is_term (R_are_terms : FF) (R_is_term : FF) : FF := semF 1 1 [0] false
    (fSeq (fIf (fOrT (fNotT (fTru (f1 (fVar 0) (p1 (gIsi bt_tuple ct_tuple))))) (fOrT (fBl (f2 (fn (fCons (fVar 0) fNil) (p1 gLen)) (fLit (.int 2)) (p2 (gCmp (cmpF .Lt))))) (fNotT (fTru (f1 (f2 (fVar 0) (fLit (.int 0)) (p2 gSub2)) (p1 (gIsi bt_str ct_str))))))) (fRet (fLit (.bl false))) fNext)
      (fSeq (fIf (fBl (f2 (f2 (fVar 0) (fLit (.int 0)) (p2 gSub2)) (fDisp .ot (fCons (fLit (.str "of")) (fCons (fLit (.str "now")) fNil))) (p2 (gIn false)))) (fRet (fAndV (f2 (fn (fCons (fVar 0) fNil) (p1 gLen)) (fLit (.int 3)) (p2 gEq)) (fAndV (fCallN i_is_name 1 (fCons (f2 (fVar 0) (fLit (.int 1)) (p2 gSub2)) fNil)) (fCallN i_is_whole 1 (fCons (f2 (fVar 0) (fLit (.int 2)) (p2 gSub2)) fNil))))) fNext)
      (fSeq (fIf (fBl (f2 (f2 (fVar 0) (fLit (.int 0)) (p2 gSub2)) (fDisp .ot (fCons (fLit (.str "first")) (fCons (fLit (.str "last")) fNil))) (p2 (gIn false)))) (fRet (fAndV (f2 (fn (fCons (fVar 0) fNil) (p1 gLen)) (fLit (.int 2)) (p2 gEq)) (fCallN ⟨R_are_terms, 1, [false], []⟩ 1 (fCons (f2 (fVar 0) (fLit (.int 1)) (p2 gSub2)) fNil)))) fNext)
      (fSeq (fIf (fOrT (fBl (f2 (f2 (fVar 0) (fLit (.int 0)) (p2 gSub2)) (fLit (.str "rank")) (p2 gNe))) (fOrT (fBl (f2 (fn (fCons (fVar 0) fNil) (p1 gLen)) (fLit (.int 3)) (p2 gNe))) (fOrT (fNotT (fTru (fCallN i_is_whole 1 (fCons (f2 (fVar 0) (fLit (.int 1)) (p2 gSub2)) fNil)))) (fNotT (fTru (fCallN ⟨R_are_terms, 1, [false], []⟩ 1 (fCons (f2 (fVar 0) (fLit (.int 2)) (p2 gSub2)) fNil))))))) (fRet (fLit (.bl false))) fNext)
      (fRet (fChain (fLit (.int 1)) (f2 (fVar 0) (fLit (.int 1)) (p2 gSub2)) (fn (fCons (f2 (fVar 0) (fLit (.int 2)) (p2 gSub2)) fNil) (p1 gLen)) (cmpF .LtE) (cmpF .LtE)))))))
mutual
def F_are_terms : Nat → FF
  | 0 => fun _ => none
  | n + 1 => B_are_terms (F_are_terms n) (F_is_term n)
def F_is_term : Nat → FF
  | 0 => fun _ => none
  | n + 1 => B_is_term (F_are_terms n) (F_is_term n)
end
theorem F_are_terms_s (n : Nat) : F_are_terms (n + 1) = B_are_terms (F_are_terms n) (F_is_term n) := rfl
def i_is_term (n : Nat) : Fi := ⟨F_is_term n, 1, [false], []⟩
theorem F_is_term_s (n : Nat) : F_is_term (n + 1) = B_is_term (F_are_terms n) (F_is_term n) := rfl
def F_Rule_init : FF := semF 2 2 [0, 1] false
    (fSeq (fIf (fNotT (fTru (fCallN (i_is_term 40) 1 (fCons (fVar 1) fNil)))) fNever fNext)
      (fSetF fc_form 0 "form" (fCallN (i_copied 40) 1 (fCons (fVar 1) fNil))))
def i_Rule_init : Fi := ⟨F_Rule_init, 2, [true, false], []⟩
abbrev b__law_number_text_1 : FS := (fPar 1 2 (fCons (f2 (f2 (fLit (.str "0123456789")) (f2 (fVar 2) (fLit (.int 10)) (p2 gMod)) (p2 gSub2)) (fVar 1) (p2 gAdd)) (fCons (f2 (fVar 2) (fLit (.int 10)) (p2 gDiv)) fNil)))
def F__law_number_text : FF := semF 1 3 [0] false
    (fSeq (fPar 1 2 (fCons (fLit (.str "")) (fCons (fn (fCons (fVar 0) fNil) (p1 gAbs)) fNil)))
      (fSeq (fWhile 4096 (fOrT (fBl (f2 (fVar 2) (fLit (.int 0)) (p2 (gCmp (cmpF .Gt))))) (fBl (f2 (fVar 1) (fLit (.str "")) (p2 gEq)))) b__law_number_text_1)
      (fRet (fIte (fBl (f2 (fVar 0) (fLit (.int 0)) (p2 (gCmp (cmpF .Lt))))) (f2 (fLit (.str "-")) (fVar 1) (p2 gAdd)) (fVar 1)))))
def i__law_number_text : Fi := ⟨F__law_number_text, 1, [false], []⟩
abbrev c__law_term_text_1 (R__law_term_text : FF) : FO := (fLc 3 [2] (fSeqI (f2 (fVar 0) (f1 (fLit (.int 1)) (p1 gNeg)) (p2 gSub2))) (gNm 2) fYes (fCallN ⟨R__law_term_text, 1, [false], []⟩ 1 (fCons (fVar 2) fNil)))
def B__law_term_text (R__law_term_text : FF) : FF := semF 1 3 [0] false
    (fSeq (fIf (fBl (f2 (f2 (fVar 0) (fLit (.int 0)) (p2 gSub2)) (fLit (.str "of")) (p2 gEq))) (fRet (f2 (f2 (f2 (fVar 0) (fLit (.int 1)) (p2 gSub2)) (fLit (.str " ")) (p2 gAdd)) (fCallN i__law_number_text 1 (fCons (f2 (fVar 0) (fLit (.int 2)) (p2 gSub2)) fNil)) (p2 gAdd))) fNext)
      (fSeq (fIf (fBl (f2 (f2 (fVar 0) (fLit (.int 0)) (p2 gSub2)) (fLit (.str "now")) (p2 gEq))) (fRet (f2 (f2 (f2 (fLit (.str "now ")) (f2 (fVar 0) (fLit (.int 1)) (p2 gSub2)) (p2 gAdd)) (fLit (.str " ")) (p2 gAdd)) (fCallN i__law_number_text 1 (fCons (f2 (fVar 0) (fLit (.int 2)) (p2 gSub2)) fNil)) (p2 gAdd))) fNext)
      (fSeq (fSet 1 (fIte (fBl (f2 (f2 (fVar 0) (fLit (.int 0)) (p2 gSub2)) (fLit (.str "rank")) (p2 gEq))) (f2 (f2 (f2 (fVar 0) (fLit (.int 0)) (p2 gSub2)) (fLit (.str " ")) (p2 gAdd)) (fCallN i__law_number_text 1 (fCons (f2 (fVar 0) (fLit (.int 1)) (p2 gSub2)) fNil)) (p2 gAdd)) (f2 (fVar 0) (fLit (.int 0)) (p2 gSub2))))
      (fRet (f2 (f2 (f2 (fVar 1) (fLit (.str "(")) (p2 gAdd)) (f1 (c__law_term_text_1 R__law_term_text) (Wp.p1 (gJoin ", "))) (p2 gAdd)) (fLit (.str ")")) (p2 gAdd))))))
def F__law_term_text : Nat → FF
  | 0 => fun _ => none
  | n + 1 => B__law_term_text (F__law_term_text n)
def i__law_term_text (n : Nat) : Fi := ⟨F__law_term_text n, 1, [false], []⟩
theorem F__law_term_text_s (n : Nat) : F__law_term_text (n + 1) = B__law_term_text (F__law_term_text n) := rfl
abbrev b_terms_at_1 (R_terms_at : FF) (R_term_at : FF) : FS := (fSeq (fSet 3 (fCallN ⟨R_term_at, 2, [false, false], []⟩ 2 (fCons (fVar 0) (fCons (fVar 1) fNil))))
      (fSeq (fIf (fBl (f2 (fVar 3) (fLit .non) (p2 (gIsN false)))) (fRet (fLit .non)) fNext)
      (fSeq (fExpr (fApp 2 (f2 (fVar 3) (fLit (.int 0)) (p2 gSub2))))
      (fSeq (fIf (fBl (f2 (fSliceS (fVar 0) (some (f2 (fVar 3) (fLit (.int 1)) (p2 gSub2))) (some (f2 (f2 (fVar 3) (fLit (.int 1)) (p2 gSub2)) (fLit (.int 1)) (p2 gAdd)))) (fLit (.str ")")) (p2 gEq))) (fRet (fDisp .ot (fCons (fVar 2) (fCons (f2 (f2 (fVar 3) (fLit (.int 1)) (p2 gSub2)) (fLit (.int 1)) (p2 gAdd)) fNil)))) fNext)
      (fSet 1 (f2 (f2 (fVar 3) (fLit (.int 1)) (p2 gSub2)) (fLit (.int 2)) (p2 gAdd)))))))
def B_terms_at (R_terms_at : FF) (R_term_at : FF) : FF := semF 2 4 [0] false
    (fSeq (fSet 2 (fDisp .ol fNil))
      (fSeq (fWhile 4096 (fOrT (fBl (f2 (fVar 2) (fDisp .ol fNil) (p2 gEq))) (fBl (f2 (fSliceS (fVar 0) (some (f2 (fVar 1) (fLit (.int 2)) (p2 gSub))) (some (fVar 1))) (fLit (.str ", ")) (p2 gEq)))) (b_terms_at_1 R_terms_at R_term_at))
      (fRet (fLit .non))))
abbrev c_whole_of_1 : FO := (fLc 3 [2] (fStrI (fVar 1)) (gNm 2) (fBl (f2 (fVar 2) (fLit (.str "0123456789")) (p2 (gIn true)))) (fVar 2))
def F_whole_of : FF := semF 1 3 [0] false
    (fSeq (fSet 1 (fIte (fBl (f2 (fSliceS (fVar 0) none (some (fLit (.int 1)))) (fLit (.str "-")) (p2 gEq))) (fSliceS (fVar 0) (some (fLit (.int 1))) none) (fVar 0)))
      (fSeq (fIf (fOrT (fBl (f2 (fVar 1) (fLit (.str "")) (p2 gEq))) (fBl (f2 c_whole_of_1 (fDisp .ol fNil) (p2 gNe)))) (fRet (fLit .non)) fNext)
      (fRet (fIte (fAndT (fBl (f2 (f2 (fVar 1) (fLit (.int 0)) (p2 gSub2)) (fLit (.str "0")) (p2 gEq))) (fBl (f2 (fVar 0) (fLit (.str "0")) (p2 gNe)))) (fLit .non) (fn (fCons (fVar 0) fNil) (p1 gIntS))))))
def i_whole_of : Fi := ⟨F_whole_of, 1, [false], []⟩
abbrev b_named_at_1 : FS := (fSet 2 (f2 (fVar 2) (fLit (.int 1)) (p2 gAdd)))
abbrev b_named_at_2 : FS := (fSet 3 (f2 (fVar 3) (fLit (.int 1)) (p2 gAdd)))
def F_named_at : FF := semF 2 5 [0, 1] false
    (fSeq (fSet 2 (fVar 1))
      (fSeq (fWhile 4096 (fAndT (fBl (f2 (fVar 2) (fn (fCons (fVar 0) fNil) (p1 gLen)) (p2 (gCmp (cmpF .Lt))))) (fBl (f2 (f2 (fVar 0) (fVar 2) (p2 gSub2)) (fLit c_LETTERS) (p2 (gIn false))))) b_named_at_1)
      (fSeq (fSet 3 (f2 (fVar 2) (fLit (.int 1)) (p2 gAdd)))
      (fSeq (fWhile 4096 (fAndT (fBl (f2 (fVar 3) (fn (fCons (fVar 0) fNil) (p1 gLen)) (p2 (gCmp (cmpF .Lt))))) (fBl (f2 (f2 (fVar 0) (fVar 3) (p2 gSub2)) (fLit (.str "-0123456789")) (p2 (gIn false))))) b_named_at_2)
      (fSeq (fSet 4 (fCallN i_whole_of 1 (fCons (fSliceS (fVar 0) (some (f2 (fVar 2) (fLit (.int 1)) (p2 gAdd))) (some (fVar 3))) fNil)))
      (fSeq (fIf (fOrT (fNotT (fTru (fCallN i_is_name 1 (fCons (fSliceS (fVar 0) (some (fVar 1)) (some (fVar 2))) fNil)))) (fOrT (fBl (f2 (fSliceS (fVar 0) (some (fVar 2)) (some (f2 (fVar 2) (fLit (.int 1)) (p2 gAdd)))) (fLit (.str " ")) (p2 gNe))) (fBl (f2 (fVar 4) (fLit .non) (p2 (gIsN false)))))) (fRet (fLit .non)) fNext)
      (fRet (fDisp .ot (fCons (fSliceS (fVar 0) (some (fVar 1)) (some (fVar 2))) (fCons (fVar 4) (fCons (fVar 3) fNil)))))))))))
def i_named_at : Fi := ⟨F_named_at, 2, [false, false], []⟩
abbrev b_term_at_1 (R_terms_at : FF) (R_term_at : FF) : FS := (fIf (fTru (fStartsV 0 (fCons (f2 (fVar 2) (fLit (.str "(")) (p2 gAdd)) (fCons (fVar 1) fNil)))) (fSeq (fSet 3 (fCallN ⟨R_terms_at, 2, [false, false], []⟩ 2 (fCons (fVar 0) (fCons (f2 (f2 (fVar 1) (fn (fCons (fVar 2) fNil) (p1 gLen)) (p2 gAdd)) (fLit (.int 1)) (p2 gAdd)) fNil))))
      (fRet (fIte (fBl (f2 (fVar 3) (fLit .non) (p2 (gIsN false)))) (fLit .non) (fDisp .ot (fCons (fDisp .ot (fCons (fVar 2) (fCons (f2 (fVar 3) (fLit (.int 0)) (p2 gSub2)) fNil))) (fCons (f2 (fVar 3) (fLit (.int 1)) (p2 gSub2)) fNil)))))) fNext)
def B_term_at (R_terms_at : FF) (R_term_at : FF) : FF := semF 2 5 [0, 1] false
    (fSeq (fFor (gNm 2) (b_term_at_1 R_terms_at R_term_at) (fSeqI (fDisp .ot (fCons (fLit (.str "first")) (fCons (fLit (.str "last")) fNil)))))
      (fSeq (fIf (fAndT (fTru (fStartsV 0 (fCons (fLit (.str "now ")) (fCons (fVar 1) fNil)))) (fBl (f2 (fSliceS (fVar 0) (some (f2 (fVar 1) (fLit (.int 4)) (p2 gAdd))) (some (f2 (fVar 1) (fLit (.int 5)) (p2 gAdd)))) (fLit c_LETTERS) (p2 (gIn false))))) (fSeq (fSet 4 (fCallN i_named_at 2 (fCons (fVar 0) (fCons (f2 (fVar 1) (fLit (.int 4)) (p2 gAdd)) fNil))))
      (fRet (fIte (fBl (f2 (fVar 4) (fLit .non) (p2 (gIsN false)))) (fLit .non) (fDisp .ot (fCons (fDisp .ot (fCons (fLit (.str "now")) (fCons (f2 (fVar 4) (fLit (.int 0)) (p2 gSub2)) (fCons (f2 (fVar 4) (fLit (.int 1)) (p2 gSub2)) fNil)))) (fCons (f2 (fVar 4) (fLit (.int 2)) (p2 gSub2)) fNil)))))) fNext)
      (fSeq (fSet 4 (fCallN i_named_at 2 (fCons (fVar 0) (fCons (fVar 1) fNil))))
      (fSeq (fIf (fOrT (fBl (f2 (fVar 4) (fLit .non) (p2 (gIsN false)))) (fOrT (fBl (f2 (f2 (fVar 4) (fLit (.int 0)) (p2 gSub2)) (fLit (.str "rank")) (p2 gNe))) (fBl (f2 (fSliceS (fVar 0) (some (f2 (fVar 4) (fLit (.int 2)) (p2 gSub2))) (some (f2 (f2 (fVar 4) (fLit (.int 2)) (p2 gSub2)) (fLit (.int 1)) (p2 gAdd)))) (fLit (.str "(")) (p2 gNe))))) (fRet (fIte (fBl (f2 (fVar 4) (fLit .non) (p2 (gIsN false)))) (fLit .non) (fDisp .ot (fCons (fDisp .ot (fCons (fLit (.str "of")) (fCons (f2 (fVar 4) (fLit (.int 0)) (p2 gSub2)) (fCons (f2 (fVar 4) (fLit (.int 1)) (p2 gSub2)) fNil)))) (fCons (f2 (fVar 4) (fLit (.int 2)) (p2 gSub2)) fNil))))) fNext)
      (fSeq (fSet 3 (fCallN ⟨R_terms_at, 2, [false, false], []⟩ 2 (fCons (fVar 0) (fCons (f2 (f2 (fVar 4) (fLit (.int 2)) (p2 gSub2)) (fLit (.int 1)) (p2 gAdd)) fNil))))
      (fSeq (fIf (fOrT (fBl (f2 (fVar 3) (fLit .non) (p2 (gIsN false)))) (fOrT (fBl (f2 (f2 (fVar 4) (fLit (.int 1)) (p2 gSub2)) (fLit (.int 1)) (p2 (gCmp (cmpF .Lt))))) (fBl (f2 (f2 (fVar 4) (fLit (.int 1)) (p2 gSub2)) (fn (fCons (f2 (fVar 3) (fLit (.int 0)) (p2 gSub2)) fNil) (p1 gLen)) (p2 (gCmp (cmpF .Gt))))))) (fRet (fLit .non)) fNext)
      (fRet (fDisp .ot (fCons (fDisp .ot (fCons (fLit (.str "rank")) (fCons (f2 (fVar 4) (fLit (.int 1)) (p2 gSub2)) (fCons (f2 (fVar 3) (fLit (.int 0)) (p2 gSub2)) fNil)))) (fCons (f2 (fVar 3) (fLit (.int 1)) (p2 gSub2)) fNil))))))))))
mutual
def F_terms_at : Nat → FF
  | 0 => fun _ => none
  | n + 1 => B_terms_at (F_terms_at n) (F_term_at n)
def F_term_at : Nat → FF
  | 0 => fun _ => none
  | n + 1 => B_term_at (F_terms_at n) (F_term_at n)
end
theorem F_terms_at_s (n : Nat) : F_terms_at (n + 1) = B_terms_at (F_terms_at n) (F_term_at n) := rfl
def i_term_at (n : Nat) : Fi := ⟨F_term_at n, 2, [false, false], []⟩
theorem F_term_at_s (n : Nat) : F_term_at (n + 1) = B_term_at (F_terms_at n) (F_term_at n) := rfl
def F_rule_in : FF := semF 1 2 [0] false
    (fSeq (fSet 1 (fCallN (i_term_at 40) 2 (fCons (fVar 0) (fCons (fLit (.int 0)) fNil))))
      (fRet (fIte (fOrT (fBl (f2 (fVar 1) (fLit .non) (p2 (gIsN false)))) (fBl (f2 (f2 (fVar 1) (fLit (.int 1)) (p2 gSub2)) (fn (fCons (fVar 0) fNil) (p1 gLen)) (p2 gNe)))) (fLit .non) (fMake 0 1 i_Rule_init (fCons (f2 (fVar 1) (fLit (.int 0)) (p2 gSub2)) fNil)))))
def i_rule_in : Fi := ⟨F_rule_in, 1, [false], []⟩
def fnT : Nat → Option Fi
  | 100 => some i_rule_in
  | _ => none
def F_read_by : FF := semF 2 3 [0, 1] false
    (fSeq (fSet 2 (fLit .non))
      (fSeq (fIf (fTru (f1 (fVar 1) (p1 (gIsi bt_str ct_str)))) (fTry0 (fSet 2 (fCallV fnT 0 1 (fCons (fVar 1) fNil)))) fNext)
      (fSeq (fIf (fBl (f2 (fVar 2) (fLit .non) (p2 (gIsN false)))) fNever fNext)
      (fRet (fVar 2)))))
def i_read_by : Fi := ⟨F_read_by, 2, [false, false], []⟩
def F_read_rule : FF := semF 1 1 [0] false
    (fRet (fCallN i_read_by 2 (fCons (fLit (.fn 100)) (fCons (fVar 0) fNil))))
def i_read_rule : Fi := ⟨F_read_rule, 1, [false], []⟩
def F_Rule_eq : FF := semF 2 2 [0, 1] false
    (fRet (fAndV (f1 (fVar 1) (p1 (gIsi bt_Rule ct_Rule))) (f2 (fAttr fc_form pt_form "form" (fVar 0)) (fAttr fc_form pt_form "form" (fVar 1)) (p2 gEq))))
def i_Rule_eq : Fi := ⟨F_Rule_eq, 2, [false, false], []⟩
def eqT : Nat → Option Fi
  | 0 => some i_Rule_eq
  | _ => none
abbrev b_law_1 : FS := (fSeq (fSet 6 (fCallN i_rule_text 1 (fCons (fMake 0 1 i_Rule_init (fCons (fVar 5) fNil)) fNil)))
      (fSeq (fIf (fOrT (fBl (f2 (fVar 6) (fCallN (i__law_term_text 40) 1 (fCons (fVar 5) fNil)) (p2 gNe))) (fBl (f2 (fn (fCons (fMeth mt_term "term" 0 (fCallN i_read_rule 1 (fCons (fVar 6) fNil)) fNil) fNil) (p1 gRepr)) (fn (fCons (fVar 5) fNil) (p1 gRepr)) (p2 gNe)))) (fRet (fLit (.bl false))) fNext)
      (fSeq (fIf (fBl (f2 (fVar 6) (fVar 2) (p2 (gIn true)))) (fExpr (fApp 4 (fVar 6))) fNext)
      (fSetD 2 (f2 (fGetL (fVar 2) (fVar 6)) (fDisp .ol (fCons (fVar 5) fNil)) (p2 gAdd)) (fVar 6)))))
abbrev c_law_1 : FO := (fLc 9 [5] (fSeqI (f2 (fVar 2) (fVar 6) (p2 gSub2))) (gNm 5) (fBl (f2 (fVar 5) (f2 (f2 (fVar 2) (fVar 6) (p2 gSub2)) (fLit (.int 0)) (p2 gSub2)) (p2 gNe))) (fVar 5))
abbrev c_law_2 : FO := (fLc 9 [6] (fSeqI (fVar 4)) (gNm 6) (fBl (f2 c_law_1 (fDisp .ol fNil) (p2 gNe))) (fVar 6))
abbrev b_law_2 : FS := (fSeq (fAsg (gTp (gsCons (gNm 2) (gsCons (gNm 3) (gsCons (gNm 4) gsNil)))) (fDisp .ot (fCons (fn (fCons (fDisp .ol fNil) fNil) (p1 gDict)) (fCons (fCallN i__law_terms 1 (fCons (fVar 1) fNil)) (fCons (fDisp .ol fNil) fNil)))))
      (fSeq (fFor (gNm 5) b_law_1 (fSeqI (fVar 3)))
      (fSeq (fIf (fBl (f2 c_law_2 (fDisp .ol fNil) (p2 gNe))) (fRet (fLit (.bl false))) fNext)
      (fSeq (fPar 7 8 (fCons (fCallN i__law_one_of 2 (fCons (fVar 1) (fCons (fVar 3) fNil))) (fCons (fCallN i__law_one_of 2 (fCons (fVar 1) (fCons (fVar 3) fNil))) fNil)))
      (fIf (fBl (f2 (fEqO eqT (fMake 0 1 i_Rule_init (fCons (fVar 7) fNil)) (fMake 0 1 i_Rule_init (fCons (fVar 8) fNil))) (f2 (fCallN i_rule_text 1 (fCons (fMake 0 1 i_Rule_init (fCons (fVar 7) fNil)) fNil)) (fCallN i_rule_text 1 (fCons (fMake 0 1 i_Rule_init (fCons (fVar 8) fNil)) fNil)) (p2 gEq)) (p2 gNe))) (fRet (fLit (.bl false))) fNext)))))
def F_law : FF := semF 1 9 [0] false
    (fSeq (fFor (gNm 1) b_law_2 (fSeqI (fCallN i__law_purses 2 (fCons (fVar 0) (fCons (fLit (.int 2)) fNil)))))
      (fRet (fLit (.bl true))))
end L94
end
section
set_option Elab.async false
set_option linter.all false
set_option maxRecDepth 100000
set_option maxHeartbeats 0
namespace L94
open PySem PySem.Spec PyProof.Rows L2 Wp
def top (i : Nat) : Stmt := PySem.Challenge.pw_whosepace_k94_whole_texts_of_all_small_t.main.body.getD i (.Pass ⟨0, 0, 0, 0⟩)
def clsBody : Stmt → List Stmt
  | .ClassDef _ _ _ body _ _ _ _ _ _ _ => body
  | _ => []
abbrev st__law_purse : Stmt := top 28
abbrev st__law_purses : Stmt := top 31
abbrev st__law_mixed : Stmt := top 29
abbrev st__law_draw : Stmt := top 30
abbrev st__law_shuffled : Stmt := top 33
abbrev st__law_word : Stmt := top 34
abbrev st__law_one_of : Stmt := top 32
abbrev st__law_wait : Stmt := top 35
abbrev st__law_over : Stmt := top 38
abbrev st__law_terms : Stmt := top 39
abbrev st_check_rule : Stmt := top 16
abbrev st_term_text : Stmt := top 19
abbrev st_is_part : Stmt := top 13
abbrev st_with_inside : Stmt := top 14
abbrev st_copied : Stmt := top 15
abbrev st_Rule_term : Stmt := (clsBody (top 10)).getD 1 (.Pass ⟨0, 0, 0, 0⟩)
abbrev st_rule_text : Stmt := top 24
abbrev st_is_name : Stmt := top 7
abbrev st_is_whole : Stmt := top 8
abbrev st_are_terms : Stmt := top 11
abbrev st_is_term : Stmt := top 12
abbrev st_Rule_init : Stmt := (clsBody (top 10)).getD 0 (.Pass ⟨0, 0, 0, 0⟩)
abbrev st__law_number_text : Stmt := top 36
abbrev st__law_term_text : Stmt := top 37
abbrev st_terms_at : Stmt := top 21
abbrev st_whole_of : Stmt := top 18
abbrev st_named_at : Stmt := top 20
abbrev st_term_at : Stmt := top 22
abbrev st_rule_in : Stmt := top 23
abbrev st_read_by : Stmt := top 25
abbrev st_read_rule : Stmt := top 26
abbrev st_Rule_eq : Stmt := (clsBody (top 10)).getD 2 (.Pass ⟨0, 0, 0, 0⟩)
abbrev st_law : Stmt := top 40
def d__law_purse : He.DefD := ⟨("_law_purse", none), "_law_purse", "_law_purse", defArgs st__law_purse, defBody st__law_purse, defScope st__law_purse, [], []⟩
def d__law_purses : He.DefD := ⟨("_law_purses", none), "_law_purses", "_law_purses", defArgs st__law_purses, defBody st__law_purses, defScope st__law_purses, [], []⟩
def d__law_mixed : He.DefD := ⟨("_law_mixed", none), "_law_mixed", "_law_mixed", defArgs st__law_mixed, defBody st__law_mixed, defScope st__law_mixed, [], []⟩
def d__law_draw : He.DefD := ⟨("_law_draw", none), "_law_draw", "_law_draw", defArgs st__law_draw, defBody st__law_draw, defScope st__law_draw, [], []⟩
def d__law_shuffled : He.DefD := ⟨("_law_shuffled", none), "_law_shuffled", "_law_shuffled", defArgs st__law_shuffled, defBody st__law_shuffled, defScope st__law_shuffled, [], []⟩
def d__law_word : He.DefD := ⟨("_law_word", none), "_law_word", "_law_word", defArgs st__law_word, defBody st__law_word, defScope st__law_word, [], []⟩
def d__law_one_of : He.DefD := ⟨("_law_one_of", none), "_law_one_of", "_law_one_of", defArgs st__law_one_of, defBody st__law_one_of, defScope st__law_one_of, [], []⟩
def d__law_wait : He.DefD := ⟨("_law_wait", none), "_law_wait", "_law_wait", defArgs st__law_wait, defBody st__law_wait, defScope st__law_wait, [], []⟩
def d__law_over : He.DefD := ⟨("_law_over", none), "_law_over", "_law_over", defArgs st__law_over, defBody st__law_over, defScope st__law_over, [], []⟩
def d__law_terms : He.DefD := ⟨("_law_terms", none), "_law_terms", "_law_terms", defArgs st__law_terms, defBody st__law_terms, defScope st__law_terms, [], []⟩
def d_check_rule : He.DefD := ⟨("check_rule", none), "check_rule", "check_rule", defArgs st_check_rule, defBody st_check_rule, defScope st_check_rule, [], []⟩
def d_term_text : He.DefD := ⟨("term_text", none), "term_text", "term_text", defArgs st_term_text, defBody st_term_text, defScope st_term_text, [], []⟩
def d_is_part : He.DefD := ⟨("is_part", none), "is_part", "is_part", defArgs st_is_part, defBody st_is_part, defScope st_is_part, [], []⟩
def d_with_inside : He.DefD := ⟨("with_inside", none), "with_inside", "with_inside", defArgs st_with_inside, defBody st_with_inside, defScope st_with_inside, [], []⟩
def d_copied : He.DefD := ⟨("copied", none), "copied", "copied", defArgs st_copied, defBody st_copied, defScope st_copied, [], []⟩
def d_Rule_term : He.DefD := ⟨("Rule", some "term"), "term", "Rule.term", defArgs st_Rule_term, defBody st_Rule_term, defScope st_Rule_term, [], []⟩
def d_rule_text : He.DefD := ⟨("rule_text", none), "rule_text", "rule_text", defArgs st_rule_text, defBody st_rule_text, defScope st_rule_text, [], []⟩
def d_is_name : He.DefD := ⟨("is_name", none), "is_name", "is_name", defArgs st_is_name, defBody st_is_name, defScope st_is_name, [], []⟩
def d_is_whole : He.DefD := ⟨("is_whole", none), "is_whole", "is_whole", defArgs st_is_whole, defBody st_is_whole, defScope st_is_whole, [], []⟩
def d_are_terms : He.DefD := ⟨("are_terms", none), "are_terms", "are_terms", defArgs st_are_terms, defBody st_are_terms, defScope st_are_terms, [], []⟩
def d_is_term : He.DefD := ⟨("is_term", none), "is_term", "is_term", defArgs st_is_term, defBody st_is_term, defScope st_is_term, [], []⟩
def d_Rule_init : He.DefD := ⟨("Rule", some "__init__"), "__init__", "Rule.__init__", defArgs st_Rule_init, defBody st_Rule_init, defScope st_Rule_init, [], []⟩
def d__law_number_text : He.DefD := ⟨("_law_number_text", none), "_law_number_text", "_law_number_text", defArgs st__law_number_text, defBody st__law_number_text, defScope st__law_number_text, [], []⟩
def d__law_term_text : He.DefD := ⟨("_law_term_text", none), "_law_term_text", "_law_term_text", defArgs st__law_term_text, defBody st__law_term_text, defScope st__law_term_text, [], []⟩
def d_terms_at : He.DefD := ⟨("terms_at", none), "terms_at", "terms_at", defArgs st_terms_at, defBody st_terms_at, defScope st_terms_at, [], []⟩
def d_whole_of : He.DefD := ⟨("whole_of", none), "whole_of", "whole_of", defArgs st_whole_of, defBody st_whole_of, defScope st_whole_of, [], []⟩
def d_named_at : He.DefD := ⟨("named_at", none), "named_at", "named_at", defArgs st_named_at, defBody st_named_at, defScope st_named_at, [], []⟩
def d_term_at : He.DefD := ⟨("term_at", none), "term_at", "term_at", defArgs st_term_at, defBody st_term_at, defScope st_term_at, [], []⟩
def d_rule_in : He.DefD := ⟨("rule_in", none), "rule_in", "rule_in", defArgs st_rule_in, defBody st_rule_in, defScope st_rule_in, [], []⟩
def d_read_by : He.DefD := ⟨("read_by", none), "read_by", "read_by", defArgs st_read_by, defBody st_read_by, defScope st_read_by, [], []⟩
def d_read_rule : He.DefD := ⟨("read_rule", none), "read_rule", "read_rule", defArgs st_read_rule, defBody st_read_rule, defScope st_read_rule, [], []⟩
def d_Rule_eq : He.DefD := ⟨("Rule", some "__eq__"), "__eq__", "Rule.__eq__", defArgs st_Rule_eq, defBody st_Rule_eq, defScope st_Rule_eq, [], []⟩
def d_law : He.DefD := ⟨("law", none), "law", "law", defArgs st_law, defBody st_law, defScope st_law, [], []⟩
def fnL : List He.DefD := [d__law_purse, d__law_purses, d__law_mixed, d__law_draw, d__law_shuffled, d__law_word, d__law_one_of, d__law_wait, d__law_over, d__law_terms, d_check_rule, d_term_text, d_is_part, d_with_inside, d_copied, d_Rule_term, d_rule_text, d_is_name, d_is_whole, d_are_terms, d_is_term, d_Rule_init, d__law_number_text, d__law_term_text, d_terms_at, d_whole_of, d_named_at, d_term_at, d_rule_in, d_read_by, d_read_rule, d_Rule_eq, d_law]
def fa : List He.Fa := [.free "abs", .free "bool", .free "dict", .free "int", .free "isinstance", .free "len", .free "list", .free "max", .free "min", .free "range", .free "repr", .free "str", .free "sum", .free "tuple", .glo "_law_purse", .glo "_law_purses", .glo "_law_mixed", .glo "_law_draw", .glo "_law_shuffled", .glo "_law_word", .glo "_law_one_of", .glo "_law_wait", .glo "_law_over", .glo "_law_terms", .glo "check_rule", .glo "term_text", .glo "is_part", .glo "with_inside", .glo "copied", .glo "rule_text", .glo "is_name", .glo "is_whole", .glo "are_terms", .glo "is_term", .glo "_law_number_text", .glo "_law_term_text", .glo "terms_at", .glo "whole_of", .glo "named_at", .glo "term_at", .glo "rule_in", .glo "read_by", .glo "read_rule", .glo "law", .glo "Rule", .cls "Rule", .noat "Rule" "form", .mkr "Rule", .meth "Rule" "__eq__", .meth "Rule" "term", .str "LETTERS" "abcdefghijklmnopqrstuvwxyz"]
def exB (K : PySem.W.Frag) : Bool := kitB2 K (.ref (He.ga K "Rule")) bt_Rule cs_Rule && kitB2 K (.type "bool") bt_bool cs_bool && kitB2 K (.type "int") bt_int cs_int && kitB2 K (.type "list") bt_list cs_list && kitB2 K (.type "str") bt_str cs_str && kitB2 K (.type "tuple") bt_tuple cs_tuple
abbrev R : PySem.W.OpenRow := PySem.W.OpenLaw.row PySem.Challenge.rw_whosepace_k94_whole_texts_of_all_small_t
abbrev hk : PySem.W.Hook := hookK 5 fa fnL exB
def ob (s : PySem.W.SharedT) : He.AlD × Bool := obsK 5 fa fnL exB (HandSHeadRun.getT s)
theorem ob_eq (s : PySem.W.SharedT) : ob s = hk.obs s.abs := obsK_eq (HandSHeadRun.getT_eq s)
def names : List PySem.Str := (["LeafError", "InvalidTerm", "InvalidRule", "InvalidText", "LETTERS", "is_name", "is_whole", "Rule", "are_terms", "is_term", "is_part", "with_inside", "copied", "check_rule", "whole_of", "term_text", "named_at", "terms_at", "term_at", "rule_in"] : List PySem.Str) ++ (["rule_text", "read_by", "read_rule", "_law_purse", "_law_mixed", "_law_draw", "_law_purses", "_law_one_of", "_law_shuffled", "_law_word", "_law_wait", "_law_number_text", "_law_term_text", "_law_over", "_law_terms"] : List PySem.Str)
theorem run_l (w : World) : RunL R 4000 w := by
  intro os
  kernel_rfl
theorem run_s (w : World) : RunS R (PySem.W.view R.prog [40]) 4000 names w := by
  intro os
  kernel_rfl
theorem run_a (w : World) : RunA R 5 fa fnL 4000 w := by
  intro os
  kernel_rfl
theorem run_f (w : World) : RunF R 5 fnL 4000 w := by
  intro os
  kernel_rfl
theorem run_x (w : World) : RunX R 5 exB 4000 w := by
  intro os
  kernel_rfl
theorem run_o (w : World) : RunO R hk ob 4000 w := runO_K (run_a w) (run_f w) (run_x w)
theorem run (w : World) : HandSHeadRun.RunEq R (PySem.W.view R.prog [40]) hk ob 4000 names w := run_of (run_l w) (run_s w) (run_o w)
end L94
end
section
set_option Elab.async false
set_option linter.all false
set_option maxRecDepth 100000
set_option maxHeartbeats 0
namespace L94
open PySem PySem.Spec PyProof.Rows L2 Wp
structure Tx (M : Md) : Prop where
  mg_abs : M.mg "abs" = none
  mg_bool : M.mg "bool" = none
  mg_dict : M.mg "dict" = none
  mg_int : M.mg "int" = none
  mg_isinstance : M.mg "isinstance" = none
  mg_len : M.mg "len" = none
  mg_list : M.mg "list" = none
  mg_max : M.mg "max" = none
  mg_min : M.mg "min" = none
  mg_range : M.mg "range" = none
  mg_repr : M.mg "repr" = none
  mg_str : M.mg "str" = none
  mg_sum : M.mg "sum" = none
  mg_tuple : M.mg "tuple" = none
  fn__law_purse : ∃ fd, FunD M.K "_law_purse" "_law_purse" (defArgs st__law_purse) (defBody st__law_purse) (defScope st__law_purse) [] [] (He.fAd M.K ("_law_purse", none)) fd
  gl__law_purse : M.mg "_law_purse" = some (.ref (He.fAd M.K ("_law_purse", none)))
  kp__law_purse : PySem.W.keepIn M.K (.ref (He.fAd M.K ("_law_purse", none))) = true
  fn__law_purses : ∃ fd, FunD M.K "_law_purses" "_law_purses" (defArgs st__law_purses) (defBody st__law_purses) (defScope st__law_purses) [] [] (He.fAd M.K ("_law_purses", none)) fd
  gl__law_purses : M.mg "_law_purses" = some (.ref (He.fAd M.K ("_law_purses", none)))
  kp__law_purses : PySem.W.keepIn M.K (.ref (He.fAd M.K ("_law_purses", none))) = true
  fn__law_mixed : ∃ fd, FunD M.K "_law_mixed" "_law_mixed" (defArgs st__law_mixed) (defBody st__law_mixed) (defScope st__law_mixed) [] [] (He.fAd M.K ("_law_mixed", none)) fd
  gl__law_mixed : M.mg "_law_mixed" = some (.ref (He.fAd M.K ("_law_mixed", none)))
  kp__law_mixed : PySem.W.keepIn M.K (.ref (He.fAd M.K ("_law_mixed", none))) = true
  fn__law_draw : ∃ fd, FunD M.K "_law_draw" "_law_draw" (defArgs st__law_draw) (defBody st__law_draw) (defScope st__law_draw) [] [] (He.fAd M.K ("_law_draw", none)) fd
  gl__law_draw : M.mg "_law_draw" = some (.ref (He.fAd M.K ("_law_draw", none)))
  kp__law_draw : PySem.W.keepIn M.K (.ref (He.fAd M.K ("_law_draw", none))) = true
  fn__law_shuffled : ∃ fd, FunD M.K "_law_shuffled" "_law_shuffled" (defArgs st__law_shuffled) (defBody st__law_shuffled) (defScope st__law_shuffled) [] [] (He.fAd M.K ("_law_shuffled", none)) fd
  gl__law_shuffled : M.mg "_law_shuffled" = some (.ref (He.fAd M.K ("_law_shuffled", none)))
  kp__law_shuffled : PySem.W.keepIn M.K (.ref (He.fAd M.K ("_law_shuffled", none))) = true
  fn__law_word : ∃ fd, FunD M.K "_law_word" "_law_word" (defArgs st__law_word) (defBody st__law_word) (defScope st__law_word) [] [] (He.fAd M.K ("_law_word", none)) fd
  gl__law_word : M.mg "_law_word" = some (.ref (He.fAd M.K ("_law_word", none)))
  kp__law_word : PySem.W.keepIn M.K (.ref (He.fAd M.K ("_law_word", none))) = true
  fn__law_one_of : ∃ fd, FunD M.K "_law_one_of" "_law_one_of" (defArgs st__law_one_of) (defBody st__law_one_of) (defScope st__law_one_of) [] [] (He.fAd M.K ("_law_one_of", none)) fd
  gl__law_one_of : M.mg "_law_one_of" = some (.ref (He.fAd M.K ("_law_one_of", none)))
  kp__law_one_of : PySem.W.keepIn M.K (.ref (He.fAd M.K ("_law_one_of", none))) = true
  fn__law_wait : ∃ fd, FunD M.K "_law_wait" "_law_wait" (defArgs st__law_wait) (defBody st__law_wait) (defScope st__law_wait) [] [] (He.fAd M.K ("_law_wait", none)) fd
  gl__law_wait : M.mg "_law_wait" = some (.ref (He.fAd M.K ("_law_wait", none)))
  kp__law_wait : PySem.W.keepIn M.K (.ref (He.fAd M.K ("_law_wait", none))) = true
  fn__law_over : ∃ fd, FunD M.K "_law_over" "_law_over" (defArgs st__law_over) (defBody st__law_over) (defScope st__law_over) [] [] (He.fAd M.K ("_law_over", none)) fd
  gl__law_over : M.mg "_law_over" = some (.ref (He.fAd M.K ("_law_over", none)))
  kp__law_over : PySem.W.keepIn M.K (.ref (He.fAd M.K ("_law_over", none))) = true
  fn__law_terms : ∃ fd, FunD M.K "_law_terms" "_law_terms" (defArgs st__law_terms) (defBody st__law_terms) (defScope st__law_terms) [] [] (He.fAd M.K ("_law_terms", none)) fd
  gl__law_terms : M.mg "_law_terms" = some (.ref (He.fAd M.K ("_law_terms", none)))
  kp__law_terms : PySem.W.keepIn M.K (.ref (He.fAd M.K ("_law_terms", none))) = true
  fn_check_rule : ∃ fd, FunD M.K "check_rule" "check_rule" (defArgs st_check_rule) (defBody st_check_rule) (defScope st_check_rule) [] [] (He.fAd M.K ("check_rule", none)) fd
  gl_check_rule : M.mg "check_rule" = some (.ref (He.fAd M.K ("check_rule", none)))
  kp_check_rule : PySem.W.keepIn M.K (.ref (He.fAd M.K ("check_rule", none))) = true
  fn_term_text : ∃ fd, FunD M.K "term_text" "term_text" (defArgs st_term_text) (defBody st_term_text) (defScope st_term_text) [] [] (He.fAd M.K ("term_text", none)) fd
  gl_term_text : M.mg "term_text" = some (.ref (He.fAd M.K ("term_text", none)))
  kp_term_text : PySem.W.keepIn M.K (.ref (He.fAd M.K ("term_text", none))) = true
  fn_is_part : ∃ fd, FunD M.K "is_part" "is_part" (defArgs st_is_part) (defBody st_is_part) (defScope st_is_part) [] [] (He.fAd M.K ("is_part", none)) fd
  gl_is_part : M.mg "is_part" = some (.ref (He.fAd M.K ("is_part", none)))
  kp_is_part : PySem.W.keepIn M.K (.ref (He.fAd M.K ("is_part", none))) = true
  fn_with_inside : ∃ fd, FunD M.K "with_inside" "with_inside" (defArgs st_with_inside) (defBody st_with_inside) (defScope st_with_inside) [] [] (He.fAd M.K ("with_inside", none)) fd
  gl_with_inside : M.mg "with_inside" = some (.ref (He.fAd M.K ("with_inside", none)))
  kp_with_inside : PySem.W.keepIn M.K (.ref (He.fAd M.K ("with_inside", none))) = true
  fn_copied : ∃ fd, FunD M.K "copied" "copied" (defArgs st_copied) (defBody st_copied) (defScope st_copied) [] [] (He.fAd M.K ("copied", none)) fd
  gl_copied : M.mg "copied" = some (.ref (He.fAd M.K ("copied", none)))
  kp_copied : PySem.W.keepIn M.K (.ref (He.fAd M.K ("copied", none))) = true
  fn_Rule_term : ∃ fd, FunD M.K "term" "Rule.term" (defArgs st_Rule_term) (defBody st_Rule_term) (defScope st_Rule_term) [] [] (He.fAd M.K ("Rule", some "term")) fd
  fn_rule_text : ∃ fd, FunD M.K "rule_text" "rule_text" (defArgs st_rule_text) (defBody st_rule_text) (defScope st_rule_text) [] [] (He.fAd M.K ("rule_text", none)) fd
  gl_rule_text : M.mg "rule_text" = some (.ref (He.fAd M.K ("rule_text", none)))
  kp_rule_text : PySem.W.keepIn M.K (.ref (He.fAd M.K ("rule_text", none))) = true
  fn_is_name : ∃ fd, FunD M.K "is_name" "is_name" (defArgs st_is_name) (defBody st_is_name) (defScope st_is_name) [] [] (He.fAd M.K ("is_name", none)) fd
  gl_is_name : M.mg "is_name" = some (.ref (He.fAd M.K ("is_name", none)))
  kp_is_name : PySem.W.keepIn M.K (.ref (He.fAd M.K ("is_name", none))) = true
  fn_is_whole : ∃ fd, FunD M.K "is_whole" "is_whole" (defArgs st_is_whole) (defBody st_is_whole) (defScope st_is_whole) [] [] (He.fAd M.K ("is_whole", none)) fd
  gl_is_whole : M.mg "is_whole" = some (.ref (He.fAd M.K ("is_whole", none)))
  kp_is_whole : PySem.W.keepIn M.K (.ref (He.fAd M.K ("is_whole", none))) = true
  fn_are_terms : ∃ fd, FunD M.K "are_terms" "are_terms" (defArgs st_are_terms) (defBody st_are_terms) (defScope st_are_terms) [] [] (He.fAd M.K ("are_terms", none)) fd
  gl_are_terms : M.mg "are_terms" = some (.ref (He.fAd M.K ("are_terms", none)))
  kp_are_terms : PySem.W.keepIn M.K (.ref (He.fAd M.K ("are_terms", none))) = true
  fn_is_term : ∃ fd, FunD M.K "is_term" "is_term" (defArgs st_is_term) (defBody st_is_term) (defScope st_is_term) [] [] (He.fAd M.K ("is_term", none)) fd
  gl_is_term : M.mg "is_term" = some (.ref (He.fAd M.K ("is_term", none)))
  kp_is_term : PySem.W.keepIn M.K (.ref (He.fAd M.K ("is_term", none))) = true
  fn_Rule_init : ∃ fd, FunD M.K "__init__" "Rule.__init__" (defArgs st_Rule_init) (defBody st_Rule_init) (defScope st_Rule_init) [] [] (He.fAd M.K ("Rule", some "__init__")) fd
  fn__law_number_text : ∃ fd, FunD M.K "_law_number_text" "_law_number_text" (defArgs st__law_number_text) (defBody st__law_number_text) (defScope st__law_number_text) [] [] (He.fAd M.K ("_law_number_text", none)) fd
  gl__law_number_text : M.mg "_law_number_text" = some (.ref (He.fAd M.K ("_law_number_text", none)))
  kp__law_number_text : PySem.W.keepIn M.K (.ref (He.fAd M.K ("_law_number_text", none))) = true
  fn__law_term_text : ∃ fd, FunD M.K "_law_term_text" "_law_term_text" (defArgs st__law_term_text) (defBody st__law_term_text) (defScope st__law_term_text) [] [] (He.fAd M.K ("_law_term_text", none)) fd
  gl__law_term_text : M.mg "_law_term_text" = some (.ref (He.fAd M.K ("_law_term_text", none)))
  kp__law_term_text : PySem.W.keepIn M.K (.ref (He.fAd M.K ("_law_term_text", none))) = true
  fn_terms_at : ∃ fd, FunD M.K "terms_at" "terms_at" (defArgs st_terms_at) (defBody st_terms_at) (defScope st_terms_at) [] [] (He.fAd M.K ("terms_at", none)) fd
  gl_terms_at : M.mg "terms_at" = some (.ref (He.fAd M.K ("terms_at", none)))
  kp_terms_at : PySem.W.keepIn M.K (.ref (He.fAd M.K ("terms_at", none))) = true
  fn_whole_of : ∃ fd, FunD M.K "whole_of" "whole_of" (defArgs st_whole_of) (defBody st_whole_of) (defScope st_whole_of) [] [] (He.fAd M.K ("whole_of", none)) fd
  gl_whole_of : M.mg "whole_of" = some (.ref (He.fAd M.K ("whole_of", none)))
  kp_whole_of : PySem.W.keepIn M.K (.ref (He.fAd M.K ("whole_of", none))) = true
  fn_named_at : ∃ fd, FunD M.K "named_at" "named_at" (defArgs st_named_at) (defBody st_named_at) (defScope st_named_at) [] [] (He.fAd M.K ("named_at", none)) fd
  gl_named_at : M.mg "named_at" = some (.ref (He.fAd M.K ("named_at", none)))
  kp_named_at : PySem.W.keepIn M.K (.ref (He.fAd M.K ("named_at", none))) = true
  fn_term_at : ∃ fd, FunD M.K "term_at" "term_at" (defArgs st_term_at) (defBody st_term_at) (defScope st_term_at) [] [] (He.fAd M.K ("term_at", none)) fd
  gl_term_at : M.mg "term_at" = some (.ref (He.fAd M.K ("term_at", none)))
  kp_term_at : PySem.W.keepIn M.K (.ref (He.fAd M.K ("term_at", none))) = true
  fn_rule_in : ∃ fd, FunD M.K "rule_in" "rule_in" (defArgs st_rule_in) (defBody st_rule_in) (defScope st_rule_in) [] [] (He.fAd M.K ("rule_in", none)) fd
  gl_rule_in : M.mg "rule_in" = some (.ref (He.fAd M.K ("rule_in", none)))
  kp_rule_in : PySem.W.keepIn M.K (.ref (He.fAd M.K ("rule_in", none))) = true
  fn_read_by : ∃ fd, FunD M.K "read_by" "read_by" (defArgs st_read_by) (defBody st_read_by) (defScope st_read_by) [] [] (He.fAd M.K ("read_by", none)) fd
  gl_read_by : M.mg "read_by" = some (.ref (He.fAd M.K ("read_by", none)))
  kp_read_by : PySem.W.keepIn M.K (.ref (He.fAd M.K ("read_by", none))) = true
  fn_read_rule : ∃ fd, FunD M.K "read_rule" "read_rule" (defArgs st_read_rule) (defBody st_read_rule) (defScope st_read_rule) [] [] (He.fAd M.K ("read_rule", none)) fd
  gl_read_rule : M.mg "read_rule" = some (.ref (He.fAd M.K ("read_rule", none)))
  kp_read_rule : PySem.W.keepIn M.K (.ref (He.fAd M.K ("read_rule", none))) = true
  fn_Rule_eq : ∃ fd, FunD M.K "__eq__" "Rule.__eq__" (defArgs st_Rule_eq) (defBody st_Rule_eq) (defScope st_Rule_eq) [] [] (He.fAd M.K ("Rule", some "__eq__")) fd
  fn_law : ∃ fd, FunD M.K "law" "law" (defArgs st_law) (defBody st_law) (defScope st_law) [] [] (He.fAd M.K ("law", none)) fd
  gl_law : M.mg "law" = some (.ref (He.fAd M.K ("law", none)))
  kp_law : PySem.W.keepIn M.K (.ref (He.fAd M.K ("law", none))) = true
  fv_rule_in : M.C 100 = He.fAd M.K ("rule_in", none)
  gv_rule_in : ∃ v u, M.mg "rule_in" = some u ∧ RelV v u ∧ ∀ Hs, RepD M.G Hs (.fn 100) v
  gl_Rule : M.mg "Rule" = some (.ref (M.C 0))
  cls_0 : Cls M.K (M.C 0)
  na_0_form : NoAttr M.K (M.C 0) "form"
  mk_Rule : Mk M.K (M.C 0) (He.fAd M.K ("Rule", some "__init__"))
  me_Rule___eq__ : L2.Meth M.K (M.C 0) "__eq__" (He.fAd M.K ("Rule", some "__eq__"))
  me_Rule_term : L2.Meth M.K (M.C 0) "term" (He.fAd M.K ("Rule", some "term"))
  is_Rule : IsOk M (.ref (M.C 0)) bt_Rule ct_Rule
  is_bool : IsOk M (.type "bool") bt_bool ct_bool
  is_int : IsOk M (.type "int") bt_int ct_int
  is_list : IsOk M (.type "list") bt_list ct_list
  is_str : IsOk M (.type "str") bt_str ct_str
  is_tuple : IsOk M (.type "tuple") bt_tuple ct_tuple
  gc_LETTERS : ∃ v u, M.mg "LETTERS" = some u ∧ RelV v u ∧ ∀ Hs, RepD M.G Hs c_LETTERS v
section
variable {M : Md}
theorem Tx.fc_form (T : Tx M) : FcOk M "form" fc_form := fun c h => by
  have h : c < 1 := of_decide_eq_true h
  match c, h with
  | 0, _ => exact ⟨T.cls_0, T.na_0_form⟩
theorem sc__law_purse : FnScope ["script", "at", "seed"] ["script", "at"] (defScope st__law_purse) := ⟨rfl, rfl, rfl, by decide +kernel, rfl, by decide +kernel, by decide +kernel⟩
theorem g__law_purse (T : Tx M) {fd : FuncData} (F : FunD M.K "_law_purse" "_law_purse" (defArgs st__law_purse) (defBody st__law_purse) (defScope st__law_purse) [] [] (He.fAd M.K ("_law_purse", none)) fd) : FnG M.prog M.w M.K M.mg M.base 1 (He.fAd M.K ("_law_purse", none)) fd ["script", "at"] (spD M 2 F__law_purse) :=
  (fn_body (k := 0) (N := ["script", "at", "seed"]) (ps := ["script", "at"]) (kp := [0, 1]) (raw := true) F sc__law_purse (by decide) fun W X ok =>
    (okB_cons (ok_set ok (by rfl) (by kernel_rfl) (by decide) (ok_sum ok ⟨by kernel_rfl, T.mg_sum, bo_sum, by decide, by decide⟩ (okL_cons (ok_slice ok (ok_name ok ⟨by rfl, by kernel_rfl, by decide, by decide⟩) (ok_name ok ⟨by rfl, by kernel_rfl, by decide, by decide⟩) (ok_add ok (ok_name ok ⟨by rfl, by kernel_rfl, by decide, by decide⟩) lit_int)) okL_nil (star_cons rfl)) rfl) (swaps_no rfl))
      (okB_one (ok_ret (ok_list (okL_cons (ok_mod (ok_max2 ok ⟨by kernel_rfl, T.mg_max, bo_max, by decide, by decide⟩ (okL_cons (ok_sub (ok_name ok ⟨by rfl, by kernel_rfl, by decide, by decide⟩) (ok_pow lit_int lit_int)) (okL_cons lit_int okL_nil (star_cons rfl)) (star_cons rfl)) rfl) (ok_pow (ok_pow lit_int lit_int) lit_int)) (okL_cons (ok_mod (ok_name ok ⟨by rfl, by kernel_rfl, by decide, by decide⟩) lit_int) (okL_cons lit_int (okL_cons (ok_name ok ⟨by rfl, by kernel_rfl, by decide, by decide⟩) okL_nil (star_cons rfl)) (star_cons rfl)) (star_cons rfl)) (star_cons rfl)))))))
theorem cb__law_purse (T : Tx M) {k : Nat} (h : 1 ≤ k) : Cb M k (He.fAd M.K ("_law_purse", none)) i__law_purse.F i__law_purse.n i__law_purse.df := by
  obtain ⟨fd, F⟩ := T.fn__law_purse
  exact Cb.mono (Cb.of (g__law_purse T F) (F.bindsN fun _ _ _ _ _ _ us hl => match us, hl with | [_, _], _ => rfl)) h
theorem sc__law_purses : FnScope ["script", "few", "at"] ["script", "few"] (defScope st__law_purses) := ⟨rfl, rfl, rfl, by decide +kernel, rfl, by decide +kernel, by decide +kernel⟩
theorem g__law_purses (T : Tx M) {fd : FuncData} (F : FunD M.K "_law_purses" "_law_purses" (defArgs st__law_purses) (defBody st__law_purses) (defScope st__law_purses) [] [] (He.fAd M.K ("_law_purses", none)) fd) : FnG M.prog M.w M.K M.mg M.base 2 (He.fAd M.K ("_law_purses", none)) fd ["script", "few"] (spD M 2 F__law_purses) :=
  (fn_body (k := 1) (N := ["script", "few", "at"]) (ps := ["script", "few"]) (kp := [0, 1]) (raw := true) F sc__law_purses (by decide) fun W X ok =>
    (okB_one (ok_ret (ok_lc (own := [("at", 2)]) ok (okI_rng1 ok (by kernel_rfl) T.mg_range (okL_cons (ok_max2 ok ⟨by kernel_rfl, T.mg_max, bo_max, by decide, by decide⟩ (okL_cons lit_int (okL_cons (ok_min2 ok ⟨by kernel_rfl, T.mg_min, bo_min, by decide, by decide⟩ (okL_cons (ok_name ok ⟨by rfl, by kernel_rfl, by decide, by decide⟩) (okL_cons (ok_len ok ⟨by kernel_rfl, T.mg_len, bo_len, by decide, by decide⟩ (okL_cons (ok_name ok ⟨by rfl, by kernel_rfl, by decide, by decide⟩) okL_nil (star_cons rfl)) rfl) okL_nil (star_cons rfl)) (star_cons rfl)) rfl) okL_nil (star_cons rfl)) (star_cons rfl)) rfl) okL_nil (star_cons rfl)) rfl) (by kernel_rfl) (fun _ ok' => ⟨(okG_name ok' (by rfl) (by kernel_rfl) (by decide +kernel)), okTs_nil, (ok_callN ok' (by kernel_rfl) T.gl__law_purse T.kp__law_purse (by decide) (cb__law_purse T (by decide)) rfl rfl (by decide) (okL_cons (ok_name ok' ⟨by rfl, by kernel_rfl, by decide, by decide⟩) (okL_cons (ok_name ok' ⟨by rfl, by kernel_rfl, by decide, by decide⟩) okL_nil (star_cons rfl)) (star_cons rfl)))⟩) rfl))))
theorem cb__law_purses (T : Tx M) {k : Nat} (h : 2 ≤ k) : Cb M k (He.fAd M.K ("_law_purses", none)) i__law_purses.F i__law_purses.n i__law_purses.df := by
  obtain ⟨fd, F⟩ := T.fn__law_purses
  exact Cb.mono (Cb.of (g__law_purses T F) (F.bindsN fun _ _ _ _ _ _ us hl => match us, hl with | [_, _], _ => rfl)) h
theorem sc__law_mixed : FnScope ["seed", "turn", "at", "mixed"] ["seed", "turn", "at"] (defScope st__law_mixed) := ⟨rfl, rfl, rfl, by decide +kernel, rfl, by decide +kernel, by decide +kernel⟩
theorem g__law_mixed (T : Tx M) {fd : FuncData} (F : FunD M.K "_law_mixed" "_law_mixed" (defArgs st__law_mixed) (defBody st__law_mixed) (defScope st__law_mixed) [] [] (He.fAd M.K ("_law_mixed", none)) fd) : FnG M.prog M.w M.K M.mg M.base 1 (He.fAd M.K ("_law_mixed", none)) fd ["seed", "turn", "at"] (spD M 3 F__law_mixed) :=
  (fn_body (k := 0) (N := ["seed", "turn", "at", "mixed"]) (ps := ["seed", "turn", "at"]) (kp := [0, 1, 2]) (raw := false) F sc__law_mixed (by decide) fun W X ok =>
    (okB_cons (ok_set ok (by rfl) (by kernel_rfl) (by decide) (ok_add ok (ok_mul (ok_name ok ⟨by rfl, by kernel_rfl, by decide, by decide⟩) lit_int) (ok_mul (ok_mul lit_int (ok_name ok ⟨by rfl, by kernel_rfl, by decide, by decide⟩)) (ok_name ok ⟨by rfl, by kernel_rfl, by decide, by decide⟩))) (swaps_no rfl))
      (okB_cons (ok_set ok (by rfl) (by kernel_rfl) (by decide) (ok_mod (ok_add ok (ok_add ok (ok_name ok ⟨by rfl, by kernel_rfl, by decide, by decide⟩) (ok_mul lit_int (ok_name ok ⟨by rfl, by kernel_rfl, by decide, by decide⟩))) (ok_name ok ⟨by rfl, by kernel_rfl, by decide, by decide⟩)) lit_int) (swaps_no rfl))
      (okB_cons (ok_set ok (by rfl) (by kernel_rfl) (by decide) (ok_mod (ok_add ok (ok_mul (ok_name ok ⟨by rfl, by kernel_rfl, by decide, by decide⟩) (ok_name ok ⟨by rfl, by kernel_rfl, by decide, by decide⟩)) lit_int) lit_int) (swaps_no rfl))
      (okB_one (ok_ret (ok_mod (ok_mul (ok_name ok ⟨by rfl, by kernel_rfl, by decide, by decide⟩) lit_int) lit_int)))))))
theorem cb__law_mixed (T : Tx M) {k : Nat} (h : 1 ≤ k) : Cb M k (He.fAd M.K ("_law_mixed", none)) i__law_mixed.F i__law_mixed.n i__law_mixed.df := by
  obtain ⟨fd, F⟩ := T.fn__law_mixed
  exact Cb.mono (Cb.of (g__law_mixed T F) (F.bindsN fun _ _ _ _ _ _ us hl => match us, hl with | [_, _, _], _ => rfl)) h
theorem sc__law_draw : FnScope ["purse", "many", "drawn", "found", "piece"] ["purse", "many"] (defScope st__law_draw) := ⟨rfl, rfl, rfl, by decide +kernel, rfl, by decide +kernel, by decide +kernel⟩
theorem g__law_draw (T : Tx M) {fd : FuncData} (F : FunD M.K "_law_draw" "_law_draw" (defArgs st__law_draw) (defBody st__law_draw) (defScope st__law_draw) [] [] (He.fAd M.K ("_law_draw", none)) fd) : FnG M.prog M.w M.K M.mg M.base 2 (He.fAd M.K ("_law_draw", none)) fd ["purse", "many"] (spD M 2 F__law_draw) :=
  (fn_body (k := 1) (N := ["purse", "many", "drawn", "found", "piece"]) (ps := ["purse", "many"]) (kp := [0, 1]) (raw := false) F sc__law_draw (by decide) fun W X ok =>
    (okB_cons (ok_if (okT_ord rfl (ok_sub_ ok (fun _ _ => rfl) (ok_name ok ⟨by rfl, by kernel_rfl, by decide, by decide⟩) lit_int) lit_int) (okB_cons (ok_set ok (by rfl) (by kernel_rfl) (by decide) (ok_mod (ok_sub_ ok (fun _ _ => rfl) (ok_name ok ⟨by rfl, by kernel_rfl, by decide, by decide⟩) lit_int) (ok_name ok ⟨by rfl, by kernel_rfl, by decide, by decide⟩)) (swaps_no rfl))
      (okB_cons (ok_setI ok ⟨by rfl, by kernel_rfl, by decide, by decide⟩ (ok_div (ok_sub_ ok (fun _ _ => rfl) (ok_name ok ⟨by rfl, by kernel_rfl, by decide, by decide⟩) lit_int) (ok_name ok ⟨by rfl, by kernel_rfl, by decide, by decide⟩)) lit_int rfl (fun _ => rfl) rfl rfl)
      (okB_one (ok_ret (ok_name ok ⟨by rfl, by kernel_rfl, by decide, by decide⟩))))) okB_nil)
      (okB_cons (ok_set ok (by rfl) (by kernel_rfl) (by decide) lit_int (swaps_no rfl))
      (okB_cons (ok_for ok (okI_rng1 ok (by kernel_rfl) T.mg_range (okL_cons (ok_add ok lit_int (ok_div (ok_bits (ok_name ok ⟨by rfl, by kernel_rfl, by decide, by decide⟩) rfl rfl) lit_int)) okL_nil (star_cons rfl)) rfl) (okG_name ok (by rfl) (by kernel_rfl) (by decide +kernel)) (okB_cons (ok_setI ok ⟨by rfl, by kernel_rfl, by decide, by decide⟩ (ok_add ok (ok_sub_ ok (fun _ _ => rfl) (ok_name ok ⟨by rfl, by kernel_rfl, by decide, by decide⟩) lit_int) lit_int) lit_int rfl (fun _ => rfl) rfl rfl)
      (okB_one (ok_set ok (by rfl) (by kernel_rfl) (by decide) (ok_add ok (ok_mul (ok_name ok ⟨by rfl, by kernel_rfl, by decide, by decide⟩) lit_int) (ok_callN ok (by kernel_rfl) T.gl__law_mixed T.kp__law_mixed (by decide) (cb__law_mixed T (by decide)) rfl rfl (by decide) (okL_cons (ok_sub_ ok (fun _ _ => rfl) (ok_name ok ⟨by rfl, by kernel_rfl, by decide, by decide⟩) lit_int) (okL_cons (ok_sub_ ok (fun _ _ => rfl) (ok_name ok ⟨by rfl, by kernel_rfl, by decide, by decide⟩) lit_int) (okL_cons (ok_sub_ ok (fun _ _ => rfl) (ok_name ok ⟨by rfl, by kernel_rfl, by decide, by decide⟩) lit_int) okL_nil (star_cons rfl)) (star_cons rfl)) (star_cons rfl)))) (swaps_no rfl)))) rfl)
      (okB_one (ok_ret (ok_mod (ok_name ok ⟨by rfl, by kernel_rfl, by decide, by decide⟩) (ok_name ok ⟨by rfl, by kernel_rfl, by decide, by decide⟩))))))))
theorem cb__law_draw (T : Tx M) {k : Nat} (h : 2 ≤ k) : Cb M k (He.fAd M.K ("_law_draw", none)) i__law_draw.F i__law_draw.n i__law_draw.df := by
  obtain ⟨fd, F⟩ := T.fn__law_draw
  exact Cb.mono (Cb.of (g__law_draw T F) (F.bindsN fun _ _ _ _ _ _ us hl => match us, hl with | [_, _], _ => rfl)) h
theorem sc__law_shuffled : FnScope ["purse", "some", "found", "item"] ["purse", "some"] (defScope st__law_shuffled) := ⟨rfl, rfl, rfl, by decide +kernel, rfl, by decide +kernel, by decide +kernel⟩
theorem g__law_shuffled (T : Tx M) {fd : FuncData} (F : FunD M.K "_law_shuffled" "_law_shuffled" (defArgs st__law_shuffled) (defBody st__law_shuffled) (defScope st__law_shuffled) [] [] (He.fAd M.K ("_law_shuffled", none)) fd) : FnG M.prog M.w M.K M.mg M.base 3 (He.fAd M.K ("_law_shuffled", none)) fd ["purse", "some"] (spD M 2 F__law_shuffled) :=
  (fn_body (k := 2) (N := ["purse", "some", "found", "item"]) (ps := ["purse", "some"]) (kp := [0, 1]) (raw := false) F sc__law_shuffled (by decide) fun W X ok =>
    (okB_cons (ok_set ok (by rfl) (by kernel_rfl) (by decide) (ok_list okL_nil) (swaps_no rfl))
      (okB_cons (ok_for ok (okI_seq ok (ok_name ok ⟨by rfl, by kernel_rfl, by decide, by decide⟩)) (okG_name ok (by rfl) (by kernel_rfl) (by decide +kernel)) (okB_one (ok_expr (ok_insert ok ⟨by rfl, by kernel_rfl, by decide, by decide⟩ (okL_cons (ok_callN ok (by kernel_rfl) T.gl__law_draw T.kp__law_draw (by decide) (cb__law_draw T (by decide)) rfl rfl (by decide) (okL_cons (ok_name ok ⟨by rfl, by kernel_rfl, by decide, by decide⟩) (okL_cons (ok_add ok (ok_len ok ⟨by kernel_rfl, T.mg_len, bo_len, by decide, by decide⟩ (okL_cons (ok_name ok ⟨by rfl, by kernel_rfl, by decide, by decide⟩) okL_nil (star_cons rfl)) rfl) lit_int) okL_nil (star_cons rfl)) (star_cons rfl))) (okL_cons (ok_name ok ⟨by rfl, by kernel_rfl, by decide, by decide⟩) okL_nil (star_cons rfl)) (star_cons rfl)) rfl rfl rfl) rfl)) rfl)
      (okB_one (ok_ret (ok_name ok ⟨by rfl, by kernel_rfl, by decide, by decide⟩))))))
theorem cb__law_shuffled (T : Tx M) {k : Nat} (h : 3 ≤ k) : Cb M k (He.fAd M.K ("_law_shuffled", none)) i__law_shuffled.F i__law_shuffled.n i__law_shuffled.df := by
  obtain ⟨fd, F⟩ := T.fn__law_shuffled
  exact Cb.mono (Cb.of (g__law_shuffled T F) (F.bindsN fun _ _ _ _ _ _ us hl => match us, hl with | [_, _], _ => rfl)) h
theorem sc__law_word : FnScope ["purse", "found", "turn"] ["purse"] (defScope st__law_word) := ⟨rfl, rfl, rfl, by decide +kernel, rfl, by decide +kernel, by decide +kernel⟩
theorem g__law_word (T : Tx M) {fd : FuncData} (F : FunD M.K "_law_word" "_law_word" (defArgs st__law_word) (defBody st__law_word) (defScope st__law_word) [] [] (He.fAd M.K ("_law_word", none)) fd) : FnG M.prog M.w M.K M.mg M.base 3 (He.fAd M.K ("_law_word", none)) fd ["purse"] (spD M 1 F__law_word) :=
  (fn_body (k := 2) (N := ["purse", "found", "turn"]) (ps := ["purse"]) (kp := [0]) (raw := false) F sc__law_word (by decide) fun W X ok =>
    (okB_cons (ok_set ok (by rfl) (by kernel_rfl) (by decide) lit_str (swaps_no rfl))
      (okB_cons (ok_for ok (okI_rng1 ok (by kernel_rfl) T.mg_range (okL_cons (ok_add ok lit_int (ok_callN ok (by kernel_rfl) T.gl__law_draw T.kp__law_draw (by decide) (cb__law_draw T (by decide)) rfl rfl (by decide) (okL_cons (ok_name ok ⟨by rfl, by kernel_rfl, by decide, by decide⟩) (okL_cons lit_int okL_nil (star_cons rfl)) (star_cons rfl)))) okL_nil (star_cons rfl)) rfl) (okG_name ok (by rfl) (by kernel_rfl) (by decide +kernel)) (okB_one (ok_set ok (by rfl) (by kernel_rfl) (by decide) (ok_add ok (ok_name ok ⟨by rfl, by kernel_rfl, by decide, by decide⟩) (ok_sub_ ok (fun _ _ => rfl) lit_str (ok_callN ok (by kernel_rfl) T.gl__law_draw T.kp__law_draw (by decide) (cb__law_draw T (by decide)) rfl rfl (by decide) (okL_cons (ok_name ok ⟨by rfl, by kernel_rfl, by decide, by decide⟩) (okL_cons lit_int okL_nil (star_cons rfl)) (star_cons rfl))))) (swaps_no rfl))) rfl)
      (okB_one (ok_ret (ok_name ok ⟨by rfl, by kernel_rfl, by decide, by decide⟩))))))
theorem cb__law_word (T : Tx M) {k : Nat} (h : 3 ≤ k) : Cb M k (He.fAd M.K ("_law_word", none)) i__law_word.F i__law_word.n i__law_word.df := by
  obtain ⟨fd, F⟩ := T.fn__law_word
  exact Cb.mono (Cb.of (g__law_word T F) (F.bindsN fun _ _ _ _ _ _ us hl => match us, hl with | [_], _ => rfl)) h
theorem sc__law_one_of : FnScope ["purse", "some"] ["purse", "some"] (defScope st__law_one_of) := ⟨rfl, rfl, rfl, by decide +kernel, rfl, by decide +kernel, by decide +kernel⟩
theorem g__law_one_of (T : Tx M) {fd : FuncData} (F : FunD M.K "_law_one_of" "_law_one_of" (defArgs st__law_one_of) (defBody st__law_one_of) (defScope st__law_one_of) [] [] (He.fAd M.K ("_law_one_of", none)) fd) : FnG M.prog M.w M.K M.mg M.base 3 (He.fAd M.K ("_law_one_of", none)) fd ["purse", "some"] (spD M 2 F__law_one_of) :=
  (fn_body (k := 2) (N := ["purse", "some"]) (ps := ["purse", "some"]) (kp := [0, 1]) (raw := false) F sc__law_one_of (by decide) fun W X ok =>
    (okB_one (ok_ret (ok_sub_ ok (fun _ _ => rfl) (ok_name ok ⟨by rfl, by kernel_rfl, by decide, by decide⟩) (ok_callN ok (by kernel_rfl) T.gl__law_draw T.kp__law_draw (by decide) (cb__law_draw T (by decide)) rfl rfl (by decide) (okL_cons (ok_name ok ⟨by rfl, by kernel_rfl, by decide, by decide⟩) (okL_cons (ok_len ok ⟨by kernel_rfl, T.mg_len, bo_len, by decide, by decide⟩ (okL_cons (ok_name ok ⟨by rfl, by kernel_rfl, by decide, by decide⟩) okL_nil (star_cons rfl)) rfl) okL_nil (star_cons rfl)) (star_cons rfl)))))))
theorem cb__law_one_of (T : Tx M) {k : Nat} (h : 3 ≤ k) : Cb M k (He.fAd M.K ("_law_one_of", none)) i__law_one_of.F i__law_one_of.n i__law_one_of.df := by
  obtain ⟨fd, F⟩ := T.fn__law_one_of
  exact Cb.mono (Cb.of (g__law_one_of T F) (F.bindsN fun _ _ _ _ _ _ us hl => match us, hl with | [_, _], _ => rfl)) h
theorem sc__law_wait : FnScope ["purse", "some"] ["purse"] (defScope st__law_wait) := ⟨rfl, rfl, rfl, by decide +kernel, rfl, by decide +kernel, by decide +kernel⟩
theorem g__law_wait (T : Tx M) {fd : FuncData} (F : FunD M.K "_law_wait" "_law_wait" (defArgs st__law_wait) (defBody st__law_wait) (defScope st__law_wait) [] [] (He.fAd M.K ("_law_wait", none)) fd) : FnG M.prog M.w M.K M.mg M.base 4 (He.fAd M.K ("_law_wait", none)) fd ["purse"] (spD M 1 F__law_wait) :=
  (fn_body (k := 3) (N := ["purse", "some"]) (ps := ["purse"]) (kp := [0]) (raw := false) F sc__law_wait (by decide) fun W X ok =>
    (okB_cons (ok_set ok (by rfl) (by kernel_rfl) (by decide) (ok_list (okL_cons lit_int (okL_cons lit_int (okL_cons lit_int (okL_cons lit_int (okL_cons lit_int (okL_cons (ok_neg lit_int) (okL_cons (ok_neg lit_int) (okL_cons (ok_sub (ok_callN ok (by kernel_rfl) T.gl__law_draw T.kp__law_draw (by decide) (cb__law_draw T (by decide)) rfl rfl (by decide) (okL_cons (ok_name ok ⟨by rfl, by kernel_rfl, by decide, by decide⟩) (okL_cons lit_int okL_nil (star_cons rfl)) (star_cons rfl))) lit_int) okL_nil (star_cons rfl)) (star_cons rfl)) (star_cons rfl)) (star_cons rfl)) (star_cons rfl)) (star_cons rfl)) (star_cons rfl)) (star_cons rfl))) (swaps_no rfl))
      (okB_cons (ok_set ok (by rfl) (by kernel_rfl) (by decide) (ok_add ok (ok_name ok ⟨by rfl, by kernel_rfl, by decide, by decide⟩) (ok_list (okL_cons (ok_sub (ok_callN ok (by kernel_rfl) T.gl__law_draw T.kp__law_draw (by decide) (cb__law_draw T (by decide)) rfl rfl (by decide) (okL_cons (ok_name ok ⟨by rfl, by kernel_rfl, by decide, by decide⟩) (okL_cons (ok_pow lit_int lit_int) okL_nil (star_cons rfl)) (star_cons rfl))) (ok_pow lit_int lit_int)) (okL_cons (ok_add ok (ok_pow lit_int lit_int) (ok_callN ok (by kernel_rfl) T.gl__law_draw T.kp__law_draw (by decide) (cb__law_draw T (by decide)) rfl rfl (by decide) (okL_cons (ok_name ok ⟨by rfl, by kernel_rfl, by decide, by decide⟩) (okL_cons lit_int okL_nil (star_cons rfl)) (star_cons rfl)))) okL_nil (star_cons rfl)) (star_cons rfl)))) (swaps_no rfl))
      (okB_one (ok_ret (ok_callN ok (by kernel_rfl) T.gl__law_one_of T.kp__law_one_of (by decide) (cb__law_one_of T (by decide)) rfl rfl (by decide) (okL_cons (ok_name ok ⟨by rfl, by kernel_rfl, by decide, by decide⟩) (okL_cons (ok_slice ok (ok_name ok ⟨by rfl, by kernel_rfl, by decide, by decide⟩) trivial (ok_add ok lit_int (ok_callN ok (by kernel_rfl) T.gl__law_draw T.kp__law_draw (by decide) (cb__law_draw T (by decide)) rfl rfl (by decide) (okL_cons (ok_name ok ⟨by rfl, by kernel_rfl, by decide, by decide⟩) (okL_cons lit_int okL_nil (star_cons rfl)) (star_cons rfl))))) okL_nil (star_cons rfl)) (star_cons rfl))))))))
theorem cb__law_wait (T : Tx M) {k : Nat} (h : 4 ≤ k) : Cb M k (He.fAd M.K ("_law_wait", none)) i__law_wait.F i__law_wait.n i__law_wait.df := by
  obtain ⟨fd, F⟩ := T.fn__law_wait
  exact Cb.mono (Cb.of (g__law_wait T F) (F.bindsN fun _ _ _ _ _ _ us hl => match us, hl with | [_], _ => rfl)) h
theorem sc__law_over : FnScope ["inner", "found", "at"] ["inner"] (defScope st__law_over) := ⟨rfl, rfl, rfl, by decide +kernel, rfl, by decide +kernel, by decide +kernel⟩
theorem g__law_over (T : Tx M) {fd : FuncData} (F : FunD M.K "_law_over" "_law_over" (defArgs st__law_over) (defBody st__law_over) (defScope st__law_over) [] [] (He.fAd M.K ("_law_over", none)) fd) : FnG M.prog M.w M.K M.mg M.base 1 (He.fAd M.K ("_law_over", none)) fd ["inner"] (spD M 1 F__law_over) :=
  (fn_body (k := 0) (N := ["inner", "found", "at"]) (ps := ["inner"]) (kp := [0]) (raw := false) F sc__law_over (by decide) fun W X ok =>
    (okB_cons (ok_set ok (by rfl) (by kernel_rfl) (by decide) (ok_list (okL_cons (ok_tup (okL_cons lit_str (okL_cons (ok_name ok ⟨by rfl, by kernel_rfl, by decide, by decide⟩) okL_nil (star_cons rfl)) (star_cons rfl))) (okL_cons (ok_tup (okL_cons lit_str (okL_cons (ok_name ok ⟨by rfl, by kernel_rfl, by decide, by decide⟩) okL_nil (star_cons rfl)) (star_cons rfl))) okL_nil (star_cons rfl)) (star_cons rfl))) (swaps_no rfl))
      (okB_one (ok_ret (ok_add ok (ok_name ok ⟨by rfl, by kernel_rfl, by decide, by decide⟩) (ok_lc (own := [("at", 2)]) ok (okI_rng1 ok (by kernel_rfl) T.mg_range (okL_cons (ok_len ok ⟨by kernel_rfl, T.mg_len, bo_len, by decide, by decide⟩ (okL_cons (ok_name ok ⟨by rfl, by kernel_rfl, by decide, by decide⟩) okL_nil (star_cons rfl)) rfl) okL_nil (star_cons rfl)) rfl) (by kernel_rfl) (fun _ ok' => ⟨(okG_name ok' (by rfl) (by kernel_rfl) (by decide +kernel)), okTs_nil, (ok_tup (okL_cons lit_str (okL_cons (ok_add ok' (ok_name ok' ⟨by rfl, by kernel_rfl, by decide, by decide⟩) lit_int) (okL_cons (ok_name ok' ⟨by rfl, by kernel_rfl, by decide, by decide⟩) okL_nil (star_cons rfl)) (star_cons rfl)) (star_cons rfl)))⟩) rfl))))))
theorem cb__law_over (T : Tx M) {k : Nat} (h : 1 ≤ k) : Cb M k (He.fAd M.K ("_law_over", none)) i__law_over.F i__law_over.n i__law_over.df := by
  obtain ⟨fd, F⟩ := T.fn__law_over
  exact Cb.mono (Cb.of (g__law_over T F) (F.bindsN fun _ _ _ _ _ _ us hl => match us, hl with | [_], _ => rfl)) h
theorem sc__law_terms : FnScope ["purse", "names", "waits", "parts_here", "kind", "name", "found", "one", "other", "inner", "wait"] ["purse"] (defScope st__law_terms) := ⟨rfl, rfl, rfl, by decide +kernel, rfl, by decide +kernel, by decide +kernel⟩
theorem g__law_terms (T : Tx M) {fd : FuncData} (F : FunD M.K "_law_terms" "_law_terms" (defArgs st__law_terms) (defBody st__law_terms) (defScope st__law_terms) [] [] (He.fAd M.K ("_law_terms", none)) fd) : FnG M.prog M.w M.K M.mg M.base 5 (He.fAd M.K ("_law_terms", none)) fd ["purse"] (spD M 1 F__law_terms) :=
  (fn_body (k := 4) (N := ["purse", "names", "waits", "parts_here", "kind", "name", "found", "one", "other", "inner", "wait"]) (ps := ["purse"]) (kp := [0]) (raw := false) F sc__law_terms (by decide) fun W X ok =>
    (okB_cons (ok_par' ok (by rfl) (by rfl) (by decide) (by kernel_rfl) (by kernel_rfl) (by decide) (by decide) (okL_cons (ok_slice ok (ok_callN ok (by kernel_rfl) T.gl__law_shuffled T.kp__law_shuffled (by decide) (cb__law_shuffled T (by decide)) rfl rfl (by decide) (okL_cons (ok_name ok ⟨by rfl, by kernel_rfl, by decide, by decide⟩) (okL_cons (ok_list (okL_cons lit_str (okL_cons lit_str (okL_cons lit_str (okL_cons lit_str (okL_cons (ok_callN ok (by kernel_rfl) T.gl__law_word T.kp__law_word (by decide) (cb__law_word T (by decide)) rfl rfl (by decide) (okL_cons (ok_name ok ⟨by rfl, by kernel_rfl, by decide, by decide⟩) okL_nil (star_cons rfl))) okL_nil (star_cons rfl)) (star_cons rfl)) (star_cons rfl)) (star_cons rfl)) (star_cons rfl))) okL_nil (star_cons rfl)) (star_cons rfl))) trivial lit_int) (okL_cons (ok_list (okL_cons lit_int (okL_cons (ok_callN ok (by kernel_rfl) T.gl__law_wait T.kp__law_wait (by decide) (cb__law_wait T (by decide)) rfl rfl (by decide) (okL_cons (ok_name ok ⟨by rfl, by kernel_rfl, by decide, by decide⟩) okL_nil (star_cons rfl))) okL_nil (star_cons rfl)) (star_cons rfl))) okL_nil (star_cons rfl)) (star_cons rfl)) rfl)
      (okB_cons (ok_set ok (by rfl) (by kernel_rfl) (by decide) (ok_list okL_nil) (swaps_no rfl))
      (okB_cons (ok_for ok (okI_seq ok (ok_tup (okL_cons lit_str (okL_cons lit_str okL_nil (star_cons rfl)) (star_cons rfl)))) (okG_name ok (by rfl) (by kernel_rfl) (by decide +kernel)) (okB_one (ok_for ok (okI_seq ok (ok_name ok ⟨by rfl, by kernel_rfl, by decide, by decide⟩)) (okG_name ok (by rfl) (by kernel_rfl) (by decide +kernel)) (okB_one (ok_set ok (by rfl) (by kernel_rfl) (by decide) (ok_add ok (ok_name ok ⟨by rfl, by kernel_rfl, by decide, by decide⟩) (ok_lc (own := [("wait", 10)]) ok (okI_seq ok (ok_name ok ⟨by rfl, by kernel_rfl, by decide, by decide⟩)) (by kernel_rfl) (fun _ ok' => ⟨(okG_name ok' (by rfl) (by kernel_rfl) (by decide +kernel)), okTs_nil, (ok_tup (okL_cons (ok_name ok' ⟨by rfl, by kernel_rfl, by decide, by decide⟩) (okL_cons (ok_name ok' ⟨by rfl, by kernel_rfl, by decide, by decide⟩) (okL_cons (ok_name ok' ⟨by rfl, by kernel_rfl, by decide, by decide⟩) okL_nil (star_cons rfl)) (star_cons rfl)) (star_cons rfl)))⟩) rfl)) (swaps_no rfl))) rfl)) rfl)
      (okB_cons (ok_set ok (by rfl) (by kernel_rfl) (by decide) (ok_listOf ok ⟨by kernel_rfl, T.mg_list, bo_list, by decide, by decide⟩ (okL_cons (ok_name ok ⟨by rfl, by kernel_rfl, by decide, by decide⟩) okL_nil (star_cons rfl)) rfl) (swaps_no rfl))
      (okB_cons (ok_for ok (okI_seq ok (ok_name ok ⟨by rfl, by kernel_rfl, by decide, by decide⟩)) (okG_name ok (by rfl) (by kernel_rfl) (by decide +kernel)) (okB_one (ok_set ok (by rfl) (by kernel_rfl) (by decide) (ok_add ok (ok_name ok ⟨by rfl, by kernel_rfl, by decide, by decide⟩) (ok_callN ok (by kernel_rfl) T.gl__law_over T.kp__law_over (by decide) (cb__law_over T (by decide)) rfl rfl (by decide) (okL_cons (ok_list (okL_cons (ok_name ok ⟨by rfl, by kernel_rfl, by decide, by decide⟩) okL_nil (star_cons rfl))) okL_nil (star_cons rfl)))) (swaps_no rfl))) rfl)
      (okB_cons (ok_for ok (okI_seq ok (ok_slice ok (ok_name ok ⟨by rfl, by kernel_rfl, by decide, by decide⟩) trivial lit_int)) (okG_name ok (by rfl) (by kernel_rfl) (by decide +kernel)) (okB_one (ok_for ok (okI_seq ok (ok_slice ok (ok_name ok ⟨by rfl, by kernel_rfl, by decide, by decide⟩) lit_int lit_int)) (okG_name ok (by rfl) (by kernel_rfl) (by decide +kernel)) (okB_one (ok_set ok (by rfl) (by kernel_rfl) (by decide) (ok_add ok (ok_name ok ⟨by rfl, by kernel_rfl, by decide, by decide⟩) (ok_callN ok (by kernel_rfl) T.gl__law_over T.kp__law_over (by decide) (cb__law_over T (by decide)) rfl rfl (by decide) (okL_cons (ok_list (okL_cons (ok_name ok ⟨by rfl, by kernel_rfl, by decide, by decide⟩) (okL_cons (ok_name ok ⟨by rfl, by kernel_rfl, by decide, by decide⟩) okL_nil (star_cons rfl)) (star_cons rfl))) okL_nil (star_cons rfl)))) (swaps_no rfl))) rfl)) rfl)
      (okB_cons (ok_for ok (okI_seq ok (ok_callN ok (by kernel_rfl) T.gl__law_over T.kp__law_over (by decide) (cb__law_over T (by decide)) rfl rfl (by decide) (okL_cons (ok_list (okL_cons (ok_sub_ ok (fun _ _ => rfl) (ok_name ok ⟨by rfl, by kernel_rfl, by decide, by decide⟩) lit_int) (okL_cons (ok_sub_ ok (fun _ _ => rfl) (ok_name ok ⟨by rfl, by kernel_rfl, by decide, by decide⟩) lit_int) okL_nil (star_cons rfl)) (star_cons rfl))) okL_nil (star_cons rfl)))) (okG_name ok (by rfl) (by kernel_rfl) (by decide +kernel)) (okB_one (ok_set ok (by rfl) (by kernel_rfl) (by decide) (ok_add ok (ok_add ok (ok_add ok (ok_name ok ⟨by rfl, by kernel_rfl, by decide, by decide⟩) (ok_callN ok (by kernel_rfl) T.gl__law_over T.kp__law_over (by decide) (cb__law_over T (by decide)) rfl rfl (by decide) (okL_cons (ok_list (okL_cons (ok_name ok ⟨by rfl, by kernel_rfl, by decide, by decide⟩) okL_nil (star_cons rfl))) okL_nil (star_cons rfl)))) (ok_callN ok (by kernel_rfl) T.gl__law_over T.kp__law_over (by decide) (cb__law_over T (by decide)) rfl rfl (by decide) (okL_cons (ok_list (okL_cons (ok_name ok ⟨by rfl, by kernel_rfl, by decide, by decide⟩) (okL_cons (ok_sub_ ok (fun _ _ => rfl) (ok_name ok ⟨by rfl, by kernel_rfl, by decide, by decide⟩) (ok_neg lit_int)) okL_nil (star_cons rfl)) (star_cons rfl))) okL_nil (star_cons rfl)))) (ok_callN ok (by kernel_rfl) T.gl__law_over T.kp__law_over (by decide) (cb__law_over T (by decide)) rfl rfl (by decide) (okL_cons (ok_list (okL_cons (ok_sub_ ok (fun _ _ => rfl) (ok_name ok ⟨by rfl, by kernel_rfl, by decide, by decide⟩) (ok_neg lit_int)) (okL_cons (ok_name ok ⟨by rfl, by kernel_rfl, by decide, by decide⟩) okL_nil (star_cons rfl)) (star_cons rfl))) okL_nil (star_cons rfl)))) (swaps_no rfl))) rfl)
      (okB_one (ok_ret (ok_name ok ⟨by rfl, by kernel_rfl, by decide, by decide⟩)))))))))))
theorem cb__law_terms (T : Tx M) {k : Nat} (h : 5 ≤ k) : Cb M k (He.fAd M.K ("_law_terms", none)) i__law_terms.F i__law_terms.n i__law_terms.df := by
  obtain ⟨fd, F⟩ := T.fn__law_terms
  exact Cb.mono (Cb.of (g__law_terms T F) (F.bindsN fun _ _ _ _ _ _ us hl => match us, hl with | [_], _ => rfl)) h
theorem sc_check_rule : FnScope ["value"] ["value"] (defScope st_check_rule) := ⟨rfl, rfl, rfl, by decide +kernel, rfl, by decide +kernel, by decide +kernel⟩
theorem g_check_rule (T : Tx M) {fd : FuncData} (F : FunD M.K "check_rule" "check_rule" (defArgs st_check_rule) (defBody st_check_rule) (defScope st_check_rule) [] [] (He.fAd M.K ("check_rule", none)) fd) : FnG M.prog M.w M.K M.mg M.base 1 (He.fAd M.K ("check_rule", none)) fd ["value"] (spD M 1 F_check_rule) :=
  (fn_body (k := 0) (N := ["value"]) (ps := ["value"]) (kp := [0]) (raw := false) F sc_check_rule (by decide) fun W X ok =>
    (okB_one (ok_if (okT_not (okT_tru ok (ok_isi ok ⟨by kernel_rfl, T.mg_isinstance, bo_isinstance, by decide, by decide⟩ (pe_clsN (c := 0) ok (by kernel_rfl) T.gl_Rule (by decide)) (.own _) T.is_Rule (ok_name ok ⟨by rfl, by kernel_rfl, by decide, by decide⟩) rfl rfl) rfl)) (okB_one ok_never) okB_nil)))
theorem cb_check_rule (T : Tx M) {k : Nat} (h : 1 ≤ k) : Cb M k (He.fAd M.K ("check_rule", none)) i_check_rule.F i_check_rule.n i_check_rule.df := by
  obtain ⟨fd, F⟩ := T.fn_check_rule
  exact Cb.mono (Cb.of (g_check_rule T F) (F.bindsN fun _ _ _ _ _ _ us hl => match us, hl with | [_], _ => rfl)) h
theorem sc_term_text : FnScope ["term", "word", "inner"] ["term"] (defScope st_term_text) := ⟨rfl, rfl, rfl, by decide +kernel, rfl, by decide +kernel, by decide +kernel⟩
def GR_term_text (M : Md) (n : Nat) : Prop := Cb M (0 + n + 1) (He.fAd M.K ("term_text", none)) (F_term_text n) 1 []
theorem cbR_term_text {n k : Nat} (ih : GR_term_text M n) (h : 0 + n + 1 ≤ k) : Cb M k (He.fAd M.K ("term_text", none)) (F_term_text n) 1 [] := Cb.mono (ih) h
theorem gR_term_text (T : Tx M) : ∀ n, GR_term_text M n
  | 0 => by
    refine (show Cb M (0 + 0 + 1) (He.fAd M.K ("term_text", none)) (F_term_text 0) 1 [] from ?_)
    · obtain ⟨fd, F⟩ := T.fn_term_text
      exact Cb.of (fn_never F sc_term_text) (F.bindsN fun _ _ _ _ _ _ us hl => match us, hl with | [_], _ => rfl)
  | n + 1 => by
    have ih := gR_term_text T n
    refine (show Cb M (0 + (n + 1) + 1) (He.fAd M.K ("term_text", none)) (F_term_text (n + 1)) 1 [] from ?_)
    · obtain ⟨fd, F⟩ := T.fn_term_text
      exact Cb.of (fn_body (k := 0 + n + 1) (N := ["term", "word", "inner"]) (ps := ["term"]) (kp := [0]) (raw := false) F sc_term_text (by decide) fun W X ok =>
    (okB_cons (ok_if (okT_eq ok (ok_sub_ ok (fun _ _ => rfl) (ok_name ok ⟨by rfl, by kernel_rfl, by decide, by decide⟩) lit_int) lit_str) (okB_one (ok_ret (ok_add ok (ok_add ok (ok_sub_ ok (fun _ _ => rfl) (ok_name ok ⟨by rfl, by kernel_rfl, by decide, by decide⟩) lit_int) lit_str) (ok_str ok ⟨by kernel_rfl, T.mg_str, bo_str, by decide, by decide⟩ (okL_cons (ok_sub_ ok (fun _ _ => rfl) (ok_name ok ⟨by rfl, by kernel_rfl, by decide, by decide⟩) lit_int) okL_nil (star_cons rfl)) rfl)))) okB_nil)
      (okB_cons (ok_if (okT_eq ok (ok_sub_ ok (fun _ _ => rfl) (ok_name ok ⟨by rfl, by kernel_rfl, by decide, by decide⟩) lit_int) lit_str) (okB_one (ok_ret (ok_add ok (ok_add ok (ok_add ok lit_str (ok_sub_ ok (fun _ _ => rfl) (ok_name ok ⟨by rfl, by kernel_rfl, by decide, by decide⟩) lit_int)) lit_str) (ok_str ok ⟨by kernel_rfl, T.mg_str, bo_str, by decide, by decide⟩ (okL_cons (ok_sub_ ok (fun _ _ => rfl) (ok_name ok ⟨by rfl, by kernel_rfl, by decide, by decide⟩) lit_int) okL_nil (star_cons rfl)) rfl)))) okB_nil)
      (okB_cons (ok_set ok (by rfl) (by kernel_rfl) (by decide) (ok_ite (okT_eq ok (ok_sub_ ok (fun _ _ => rfl) (ok_name ok ⟨by rfl, by kernel_rfl, by decide, by decide⟩) lit_int) lit_str) (ok_add ok lit_str (ok_str ok ⟨by kernel_rfl, T.mg_str, bo_str, by decide, by decide⟩ (okL_cons (ok_sub_ ok (fun _ _ => rfl) (ok_name ok ⟨by rfl, by kernel_rfl, by decide, by decide⟩) lit_int) okL_nil (star_cons rfl)) rfl)) (ok_sub_ ok (fun _ _ => rfl) (ok_name ok ⟨by rfl, by kernel_rfl, by decide, by decide⟩) lit_int)) (swaps_no rfl))
      (okB_one (ok_ret (ok_add ok (ok_add ok (ok_add ok (ok_name ok ⟨by rfl, by kernel_rfl, by decide, by decide⟩) lit_str) (ok_join ok (ok_lc (own := [("inner", 2)]) ok (okI_seq ok (ok_sub_ ok (fun _ _ => rfl) (ok_name ok ⟨by rfl, by kernel_rfl, by decide, by decide⟩) (ok_neg lit_int))) (by kernel_rfl) (fun _ ok' => ⟨(okG_name ok' (by rfl) (by kernel_rfl) (by decide +kernel)), okTs_nil, (ok_callN ok' (by kernel_rfl) T.gl_term_text T.kp_term_text (by decide) (cbR_term_text ih (Nat.le_refl _)) rfl rfl (Nat.le_of_ble_eq_true rfl) (okL_cons (ok_name ok' ⟨by rfl, by kernel_rfl, by decide, by decide⟩) okL_nil (star_cons rfl)))⟩) rfl) rfl rfl)) lit_str))))))) (F.bindsN fun _ _ _ _ _ _ us hl => match us, hl with | [_], _ => rfl)
theorem cb_term_text (T : Tx M) {k : Nat} (h : 41 ≤ k) : Cb M k (He.fAd M.K ("term_text", none)) (i_term_text 40).F (i_term_text 40).n (i_term_text 40).df := cbR_term_text (gR_term_text T 40) (Nat.le_trans (by decide) h)
theorem sc_is_part : FnScope ["term"] ["term"] (defScope st_is_part) := ⟨rfl, rfl, rfl, by decide +kernel, rfl, by decide +kernel, by decide +kernel⟩
theorem g_is_part (T : Tx M) {fd : FuncData} (F : FunD M.K "is_part" "is_part" (defArgs st_is_part) (defBody st_is_part) (defScope st_is_part) [] [] (He.fAd M.K ("is_part", none)) fd) : FnG M.prog M.w M.K M.mg M.base 1 (He.fAd M.K ("is_part", none)) fd ["term"] (spD M 1 F_is_part) :=
  (fn_body (k := 0) (N := ["term"]) (ps := ["term"]) (kp := [0]) (raw := false) F sc_is_part (by decide) fun W X ok =>
    (okB_one (ok_ret (ok_in ok rfl (ok_sub_ ok (fun _ _ => rfl) (ok_name ok ⟨by rfl, by kernel_rfl, by decide, by decide⟩) lit_int) (ok_tup (okL_cons lit_str (okL_cons lit_str okL_nil (star_cons rfl)) (star_cons rfl)))))))
theorem cb_is_part (T : Tx M) {k : Nat} (h : 1 ≤ k) : Cb M k (He.fAd M.K ("is_part", none)) i_is_part.F i_is_part.n i_is_part.df := by
  obtain ⟨fd, F⟩ := T.fn_is_part
  exact Cb.mono (Cb.of (g_is_part T F) (F.bindsN fun _ _ _ _ _ _ us hl => match us, hl with | [_], _ => rfl)) h
theorem sc_with_inside : FnScope ["term", "inner"] ["term", "inner"] (defScope st_with_inside) := ⟨rfl, rfl, rfl, by decide +kernel, rfl, by decide +kernel, by decide +kernel⟩
theorem g_with_inside (T : Tx M) {fd : FuncData} (F : FunD M.K "with_inside" "with_inside" (defArgs st_with_inside) (defBody st_with_inside) (defScope st_with_inside) [] [] (He.fAd M.K ("with_inside", none)) fd) : FnG M.prog M.w M.K M.mg M.base 1 (He.fAd M.K ("with_inside", none)) fd ["term", "inner"] (spD M 2 F_with_inside) :=
  (fn_body (k := 0) (N := ["term", "inner"]) (ps := ["term", "inner"]) (kp := [0, 1]) (raw := false) F sc_with_inside (by decide) fun W X ok =>
    (okB_one (ok_ret (ok_tadd ok (ok_slice ok (ok_name ok ⟨by rfl, by kernel_rfl, by decide, by decide⟩) trivial (ok_neg lit_int)) (ok_tup (okL_cons (ok_name ok ⟨by rfl, by kernel_rfl, by decide, by decide⟩) okL_nil (star_cons rfl)))))))
theorem cb_with_inside (T : Tx M) {k : Nat} (h : 1 ≤ k) : Cb M k (He.fAd M.K ("with_inside", none)) i_with_inside.F i_with_inside.n i_with_inside.df := by
  obtain ⟨fd, F⟩ := T.fn_with_inside
  exact Cb.mono (Cb.of (g_with_inside T F) (F.bindsN fun _ _ _ _ _ _ us hl => match us, hl with | [_, _], _ => rfl)) h
theorem sc_copied : FnScope ["term", "one"] ["term"] (defScope st_copied) := ⟨rfl, rfl, rfl, by decide +kernel, rfl, by decide +kernel, by decide +kernel⟩
def GR_copied (M : Md) (n : Nat) : Prop := Cb M (1 + n + 1) (He.fAd M.K ("copied", none)) (F_copied n) 1 []
theorem cbR_copied {n k : Nat} (ih : GR_copied M n) (h : 1 + n + 1 ≤ k) : Cb M k (He.fAd M.K ("copied", none)) (F_copied n) 1 [] := Cb.mono (ih) h
theorem gR_copied (T : Tx M) : ∀ n, GR_copied M n
  | 0 => by
    refine (show Cb M (1 + 0 + 1) (He.fAd M.K ("copied", none)) (F_copied 0) 1 [] from ?_)
    · obtain ⟨fd, F⟩ := T.fn_copied
      exact Cb.of (fn_never F sc_copied) (F.bindsN fun _ _ _ _ _ _ us hl => match us, hl with | [_], _ => rfl)
  | n + 1 => by
    have ih := gR_copied T n
    refine (show Cb M (1 + (n + 1) + 1) (He.fAd M.K ("copied", none)) (F_copied (n + 1)) 1 [] from ?_)
    · obtain ⟨fd, F⟩ := T.fn_copied
      exact Cb.of (fn_body (k := 1 + n + 1) (N := ["term", "one"]) (ps := ["term"]) (kp := [0]) (raw := false) F sc_copied (by decide) fun W X ok =>
    (okB_one (ok_ret (ok_ite (okT_tru ok (ok_callN ok (by kernel_rfl) T.gl_is_part T.kp_is_part (by decide) (cb_is_part T (by omega)) rfl rfl (by decide) (okL_cons (ok_name ok ⟨by rfl, by kernel_rfl, by decide, by decide⟩) okL_nil (star_cons rfl))) rfl) (ok_name ok ⟨by rfl, by kernel_rfl, by decide, by decide⟩) (ok_callN ok (by kernel_rfl) T.gl_with_inside T.kp_with_inside (by decide) (cb_with_inside T (by omega)) rfl rfl (by decide) (okL_cons (ok_name ok ⟨by rfl, by kernel_rfl, by decide, by decide⟩) (okL_cons (ok_lc (own := [("one", 1)]) ok (okI_seq ok (ok_sub_ ok (fun _ _ => rfl) (ok_name ok ⟨by rfl, by kernel_rfl, by decide, by decide⟩) (ok_neg lit_int))) (by kernel_rfl) (fun _ ok' => ⟨(okG_name ok' (by rfl) (by kernel_rfl) (by decide +kernel)), okTs_nil, (ok_callN ok' (by kernel_rfl) T.gl_copied T.kp_copied (by decide) (cbR_copied ih (Nat.le_refl _)) rfl rfl (Nat.le_of_ble_eq_true rfl) (okL_cons (ok_name ok' ⟨by rfl, by kernel_rfl, by decide, by decide⟩) okL_nil (star_cons rfl)))⟩) rfl) okL_nil (star_cons rfl)) (star_cons rfl))))))) (F.bindsN fun _ _ _ _ _ _ us hl => match us, hl with | [_], _ => rfl)
theorem cb_copied (T : Tx M) {k : Nat} (h : 42 ≤ k) : Cb M k (He.fAd M.K ("copied", none)) (i_copied 40).F (i_copied 40).n (i_copied 40).df := cbR_copied (gR_copied T 40) (Nat.le_trans (by decide) h)
theorem sc_Rule_term : FnScope ["self"] ["self"] (defScope st_Rule_term) := ⟨rfl, rfl, rfl, by decide +kernel, rfl, by decide +kernel, by decide +kernel⟩
theorem g_Rule_term (T : Tx M) {fd : FuncData} (F : FunD M.K "term" "Rule.term" (defArgs st_Rule_term) (defBody st_Rule_term) (defScope st_Rule_term) [] [] (He.fAd M.K ("Rule", some "term")) fd) : FnG M.prog M.w M.K M.mg M.base 43 (He.fAd M.K ("Rule", some "term")) fd ["self"] (spD M 1 F_Rule_term) :=
  (fn_body (k := 42) (N := ["self"]) (ps := ["self"]) (kp := [0]) (raw := false) F sc_Rule_term (by decide) fun W X ok =>
    (okB_one (ok_ret (ok_callN ok (by kernel_rfl) T.gl_copied T.kp_copied (by decide) (cb_copied T (by decide)) rfl rfl (by decide) (okL_cons (ok_attr ok T.fc_form (fun _ _ z => nomatch z) (ok_name ok ⟨by rfl, by kernel_rfl, by decide, by decide⟩) rfl) okL_nil (star_cons rfl))))))
theorem cb_Rule_term (T : Tx M) {k : Nat} (h : 43 ≤ k) : Cb M k (He.fAd M.K ("Rule", some "term")) i_Rule_term.F i_Rule_term.n i_Rule_term.df := by
  obtain ⟨fd, F⟩ := T.fn_Rule_term
  exact Cb.mono (Cb.of (g_Rule_term T F) (F.bindsN fun _ _ _ _ _ _ us hl => match us, hl with | [_], _ => rfl)) h
theorem mt_term_ok0 (T : Tx M) {k : Nat} (h : 43 ≤ k) : MtOk M k "term" 0 mt_term := by
  intro c i e
  match c, e with
  | 0, e =>
    cases e
    exact ⟨_, T.cls_0, T.me_Rule_term, cb_Rule_term T (Nat.le_trans (by decide) h), by decide⟩
theorem sc_rule_text : FnScope ["rule"] ["rule"] (defScope st_rule_text) := ⟨rfl, rfl, rfl, by decide +kernel, rfl, by decide +kernel, by decide +kernel⟩
theorem g_rule_text (T : Tx M) {fd : FuncData} (F : FunD M.K "rule_text" "rule_text" (defArgs st_rule_text) (defBody st_rule_text) (defScope st_rule_text) [] [] (He.fAd M.K ("rule_text", none)) fd) : FnG M.prog M.w M.K M.mg M.base 44 (He.fAd M.K ("rule_text", none)) fd ["rule"] (spD M 1 F_rule_text) :=
  (fn_body (k := 43) (N := ["rule"]) (ps := ["rule"]) (kp := [0]) (raw := false) F sc_rule_text (by decide) fun W X ok =>
    (okB_cons (ok_expr (ok_callN ok (by kernel_rfl) T.gl_check_rule T.kp_check_rule (by decide) (cb_check_rule T (by decide)) rfl rfl (by decide) (okL_cons (ok_name ok ⟨by rfl, by kernel_rfl, by decide, by decide⟩) okL_nil (star_cons rfl))) rfl)
      (okB_one (ok_ret (ok_callN ok (by kernel_rfl) T.gl_term_text T.kp_term_text (by decide) (cb_term_text T (by decide)) rfl rfl (by decide) (okL_cons (ok_meth0 ok (mt_term_ok0 T (by decide)) (ok_name ok ⟨by rfl, by kernel_rfl, by decide, by decide⟩) rfl rfl) okL_nil (star_cons rfl)))))))
theorem cb_rule_text (T : Tx M) {k : Nat} (h : 44 ≤ k) : Cb M k (He.fAd M.K ("rule_text", none)) i_rule_text.F i_rule_text.n i_rule_text.df := by
  obtain ⟨fd, F⟩ := T.fn_rule_text
  exact Cb.mono (Cb.of (g_rule_text T F) (F.bindsN fun _ _ _ _ _ _ us hl => match us, hl with | [_], _ => rfl)) h
theorem sc_is_name : FnScope ["value", "sign"] ["value"] (defScope st_is_name) := ⟨rfl, rfl, rfl, by decide +kernel, rfl, by decide +kernel, by decide +kernel⟩
theorem g_is_name (T : Tx M) {fd : FuncData} (F : FunD M.K "is_name" "is_name" (defArgs st_is_name) (defBody st_is_name) (defScope st_is_name) [] [] (He.fAd M.K ("is_name", none)) fd) : FnG M.prog M.w M.K M.mg M.base 1 (He.fAd M.K ("is_name", none)) fd ["value"] (spD M 1 F_is_name) :=
  (fn_body (k := 0) (N := ["value", "sign"]) (ps := ["value"]) (kp := [0]) (raw := false) F sc_is_name (by decide) fun W X ok =>
    (okB_cons (ok_if (OkW.t (okW_or (okT_not (okT_tru ok (ok_isi ok ⟨by kernel_rfl, T.mg_isinstance, bo_isinstance, by decide, by decide⟩ (pe_tyN ok ⟨by kernel_rfl, T.mg_str, bo_str, by decide, by decide⟩) (.ty _) T.is_str (ok_name ok ⟨by rfl, by kernel_rfl, by decide, by decide⟩) rfl rfl) rfl)) (okW_or (okT_ord rfl (ok_len ok ⟨by kernel_rfl, T.mg_len, bo_len, by decide, by decide⟩ (okL_cons (ok_name ok ⟨by rfl, by kernel_rfl, by decide, by decide⟩) okL_nil (star_cons rfl)) rfl) lit_int) (okW_or1 (okT_ord rfl (ok_len ok ⟨by kernel_rfl, T.mg_len, bo_len, by decide, by decide⟩ (okL_cons (ok_name ok ⟨by rfl, by kernel_rfl, by decide, by decide⟩) okL_nil (star_cons rfl)) rfl) lit_int))))) (okB_one (ok_ret lit_bl)) okB_nil)
      (okB_one (ok_ret (ok_eq ok (ok_lc (own := [("sign", 1)]) ok (okI_str (ok_name ok ⟨by rfl, by kernel_rfl, by decide, by decide⟩)) (by kernel_rfl) (fun _ ok' => ⟨(okG_name ok' (by rfl) (by kernel_rfl) (by decide +kernel)), (okTs_one (okT_notIn ok' rfl (ok_name ok' ⟨by rfl, by kernel_rfl, by decide, by decide⟩) (ok_glob ok' ⟨by kernel_rfl, by decide, T.gc_LETTERS⟩))), (ok_name ok' ⟨by rfl, by kernel_rfl, by decide, by decide⟩)⟩) rfl) (ok_list okL_nil))))))
theorem cb_is_name (T : Tx M) {k : Nat} (h : 1 ≤ k) : Cb M k (He.fAd M.K ("is_name", none)) i_is_name.F i_is_name.n i_is_name.df := by
  obtain ⟨fd, F⟩ := T.fn_is_name
  exact Cb.mono (Cb.of (g_is_name T F) (F.bindsN fun _ _ _ _ _ _ us hl => match us, hl with | [_], _ => rfl)) h
theorem sc_is_whole : FnScope ["value"] ["value"] (defScope st_is_whole) := ⟨rfl, rfl, rfl, by decide +kernel, rfl, by decide +kernel, by decide +kernel⟩
theorem g_is_whole (T : Tx M) {fd : FuncData} (F : FunD M.K "is_whole" "is_whole" (defArgs st_is_whole) (defBody st_is_whole) (defScope st_is_whole) [] [] (He.fAd M.K ("is_whole", none)) fd) : FnG M.prog M.w M.K M.mg M.base 1 (He.fAd M.K ("is_whole", none)) fd ["value"] (spD M 1 F_is_whole) :=
  (fn_body (k := 0) (N := ["value"]) (ps := ["value"]) (kp := [0]) (raw := false) F sc_is_whole (by decide) fun W X ok =>
    (okB_one (ok_ret (ok_and (ok_isi ok ⟨by kernel_rfl, T.mg_isinstance, bo_isinstance, by decide, by decide⟩ (pe_tyN ok ⟨by kernel_rfl, T.mg_int, bo_int, by decide, by decide⟩) (.ty _) T.is_int (ok_name ok ⟨by rfl, by kernel_rfl, by decide, by decide⟩) rfl rfl) (ok_one (ok_not (ok_isi ok ⟨by kernel_rfl, T.mg_isinstance, bo_isinstance, by decide, by decide⟩ (pe_tyN ok ⟨by kernel_rfl, T.mg_bool, bo_bool, by decide, by decide⟩) (.ty _) T.is_bool (ok_name ok ⟨by rfl, by kernel_rfl, by decide, by decide⟩) rfl rfl)))))))
theorem cb_is_whole (T : Tx M) {k : Nat} (h : 1 ≤ k) : Cb M k (He.fAd M.K ("is_whole", none)) i_is_whole.F i_is_whole.n i_is_whole.df := by
  obtain ⟨fd, F⟩ := T.fn_is_whole
  exact Cb.mono (Cb.of (g_is_whole T F) (F.bindsN fun _ _ _ _ _ _ us hl => match us, hl with | [_], _ => rfl)) h
theorem sc_are_terms : FnScope ["value", "one"] ["value"] (defScope st_are_terms) := ⟨rfl, rfl, rfl, by decide +kernel, rfl, by decide +kernel, by decide +kernel⟩
theorem sc_is_term : FnScope ["value"] ["value"] (defScope st_is_term) := ⟨rfl, rfl, rfl, by decide +kernel, rfl, by decide +kernel, by decide +kernel⟩
def GR_are_terms (M : Md) (n : Nat) : Prop := Cb M (1 + n + 1) (He.fAd M.K ("are_terms", none)) (F_are_terms n) 1 [] ∧ Cb M (1 + n + 1) (He.fAd M.K ("is_term", none)) (F_is_term n) 1 []
theorem cbR_are_terms {n k : Nat} (ih : GR_are_terms M n) (h : 1 + n + 1 ≤ k) : Cb M k (He.fAd M.K ("are_terms", none)) (F_are_terms n) 1 [] := Cb.mono (ih.1) h
theorem cbR_is_term {n k : Nat} (ih : GR_are_terms M n) (h : 1 + n + 1 ≤ k) : Cb M k (He.fAd M.K ("is_term", none)) (F_is_term n) 1 [] := Cb.mono (ih.2) h
theorem gR_are_terms (T : Tx M) : ∀ n, GR_are_terms M n
  | 0 => by
    refine ⟨?_, ?_⟩
    · obtain ⟨fd, F⟩ := T.fn_are_terms
      exact Cb.of (fn_never F sc_are_terms) (F.bindsN fun _ _ _ _ _ _ us hl => match us, hl with | [_], _ => rfl)
    · obtain ⟨fd, F⟩ := T.fn_is_term
      exact Cb.of (fn_never F sc_is_term) (F.bindsN fun _ _ _ _ _ _ us hl => match us, hl with | [_], _ => rfl)
  | n + 1 => by
    have ih := gR_are_terms T n
    refine ⟨?_, ?_⟩
    · obtain ⟨fd, F⟩ := T.fn_are_terms
      exact Cb.of (fn_body (k := 1 + n + 1) (N := ["value", "one"]) (ps := ["value"]) (kp := [0]) (raw := false) F sc_are_terms (by decide) fun W X ok =>
    (okB_cons (ok_if (OkW.t (okW_or (okT_not (okT_tru ok (ok_isi ok ⟨by kernel_rfl, T.mg_isinstance, bo_isinstance, by decide, by decide⟩ (pe_tyN ok ⟨by kernel_rfl, T.mg_list, bo_list, by decide, by decide⟩) (.ty _) T.is_list (ok_name ok ⟨by rfl, by kernel_rfl, by decide, by decide⟩) rfl rfl) rfl)) (okW_or1 (okT_eq ok (ok_name ok ⟨by rfl, by kernel_rfl, by decide, by decide⟩) (ok_list okL_nil))))) (okB_one (ok_ret lit_bl)) okB_nil)
      (okB_one (ok_ret (ok_eq ok (ok_lc (own := [("one", 1)]) ok (okI_seq ok (ok_name ok ⟨by rfl, by kernel_rfl, by decide, by decide⟩)) (by kernel_rfl) (fun _ ok' => ⟨(okG_name ok' (by rfl) (by kernel_rfl) (by decide +kernel)), (okTs_one (okT_not (okT_tru ok' (ok_callN ok' (by kernel_rfl) T.gl_is_term T.kp_is_term (by decide) (cbR_is_term ih (Nat.le_refl _)) rfl rfl (Nat.le_of_ble_eq_true rfl) (okL_cons (ok_name ok' ⟨by rfl, by kernel_rfl, by decide, by decide⟩) okL_nil (star_cons rfl))) rfl))), (ok_name ok' ⟨by rfl, by kernel_rfl, by decide, by decide⟩)⟩) rfl) (ok_list okL_nil)))))) (F.bindsN fun _ _ _ _ _ _ us hl => match us, hl with | [_], _ => rfl)
    · obtain ⟨fd, F⟩ := T.fn_is_term
      exact Cb.of (fn_body (k := 1 + n + 1) (N := ["value"]) (ps := ["value"]) (kp := [0]) (raw := false) F sc_is_term (by decide) fun W X ok =>
    (okB_cons (ok_if (OkW.t (okW_or (okT_not (okT_tru ok (ok_isi ok ⟨by kernel_rfl, T.mg_isinstance, bo_isinstance, by decide, by decide⟩ (pe_tyN ok ⟨by kernel_rfl, T.mg_tuple, bo_tuple, by decide, by decide⟩) (.ty _) T.is_tuple (ok_name ok ⟨by rfl, by kernel_rfl, by decide, by decide⟩) rfl rfl) rfl)) (okW_or (okT_ord rfl (ok_len ok ⟨by kernel_rfl, T.mg_len, bo_len, by decide, by decide⟩ (okL_cons (ok_name ok ⟨by rfl, by kernel_rfl, by decide, by decide⟩) okL_nil (star_cons rfl)) rfl) lit_int) (okW_or1 (okT_not (okT_tru ok (ok_isi ok ⟨by kernel_rfl, T.mg_isinstance, bo_isinstance, by decide, by decide⟩ (pe_tyN ok ⟨by kernel_rfl, T.mg_str, bo_str, by decide, by decide⟩) (.ty _) T.is_str (ok_sub_ ok (fun _ _ => rfl) (ok_name ok ⟨by rfl, by kernel_rfl, by decide, by decide⟩) lit_int) rfl rfl) rfl)))))) (okB_one (ok_ret lit_bl)) okB_nil)
      (okB_cons (ok_if (okT_in ok rfl (ok_sub_ ok (fun _ _ => rfl) (ok_name ok ⟨by rfl, by kernel_rfl, by decide, by decide⟩) lit_int) (ok_tup (okL_cons lit_str (okL_cons lit_str okL_nil (star_cons rfl)) (star_cons rfl)))) (okB_one (ok_ret (ok_and (ok_eq ok (ok_len ok ⟨by kernel_rfl, T.mg_len, bo_len, by decide, by decide⟩ (okL_cons (ok_name ok ⟨by rfl, by kernel_rfl, by decide, by decide⟩) okL_nil (star_cons rfl)) rfl) lit_int) (ok_and (ok_callN ok (by kernel_rfl) T.gl_is_name T.kp_is_name (by decide) (cb_is_name T (by omega)) rfl rfl (by decide) (okL_cons (ok_sub_ ok (fun _ _ => rfl) (ok_name ok ⟨by rfl, by kernel_rfl, by decide, by decide⟩) lit_int) okL_nil (star_cons rfl))) (ok_one (ok_callN ok (by kernel_rfl) T.gl_is_whole T.kp_is_whole (by decide) (cb_is_whole T (by omega)) rfl rfl (by decide) (okL_cons (ok_sub_ ok (fun _ _ => rfl) (ok_name ok ⟨by rfl, by kernel_rfl, by decide, by decide⟩) lit_int) okL_nil (star_cons rfl)))))))) okB_nil)
      (okB_cons (ok_if (okT_in ok rfl (ok_sub_ ok (fun _ _ => rfl) (ok_name ok ⟨by rfl, by kernel_rfl, by decide, by decide⟩) lit_int) (ok_tup (okL_cons lit_str (okL_cons lit_str okL_nil (star_cons rfl)) (star_cons rfl)))) (okB_one (ok_ret (ok_and (ok_eq ok (ok_len ok ⟨by kernel_rfl, T.mg_len, bo_len, by decide, by decide⟩ (okL_cons (ok_name ok ⟨by rfl, by kernel_rfl, by decide, by decide⟩) okL_nil (star_cons rfl)) rfl) lit_int) (ok_one (ok_callN ok (by kernel_rfl) T.gl_are_terms T.kp_are_terms (by decide) (cbR_are_terms ih (Nat.le_refl _)) rfl rfl (Nat.le_of_ble_eq_true rfl) (okL_cons (ok_sub_ ok (fun _ _ => rfl) (ok_name ok ⟨by rfl, by kernel_rfl, by decide, by decide⟩) lit_int) okL_nil (star_cons rfl))))))) okB_nil)
      (okB_cons (ok_if (OkW.t (okW_or (okT_ne ok (ok_sub_ ok (fun _ _ => rfl) (ok_name ok ⟨by rfl, by kernel_rfl, by decide, by decide⟩) lit_int) lit_str) (okW_or (okT_ne ok (ok_len ok ⟨by kernel_rfl, T.mg_len, bo_len, by decide, by decide⟩ (okL_cons (ok_name ok ⟨by rfl, by kernel_rfl, by decide, by decide⟩) okL_nil (star_cons rfl)) rfl) lit_int) (okW_or (okT_not (okT_tru ok (ok_callN ok (by kernel_rfl) T.gl_is_whole T.kp_is_whole (by decide) (cb_is_whole T (by omega)) rfl rfl (by decide) (okL_cons (ok_sub_ ok (fun _ _ => rfl) (ok_name ok ⟨by rfl, by kernel_rfl, by decide, by decide⟩) lit_int) okL_nil (star_cons rfl))) rfl)) (okW_or1 (okT_not (okT_tru ok (ok_callN ok (by kernel_rfl) T.gl_are_terms T.kp_are_terms (by decide) (cbR_are_terms ih (Nat.le_refl _)) rfl rfl (Nat.le_of_ble_eq_true rfl) (okL_cons (ok_sub_ ok (fun _ _ => rfl) (ok_name ok ⟨by rfl, by kernel_rfl, by decide, by decide⟩) lit_int) okL_nil (star_cons rfl))) rfl))))))) (okB_one (ok_ret lit_bl)) okB_nil)
      (okB_one (ok_ret (ok_chain rfl rfl (by with_unfolding_all rfl) lit_int (ok_sub_ ok (fun _ _ => rfl) (ok_name ok ⟨by rfl, by kernel_rfl, by decide, by decide⟩) lit_int) (ok_len ok ⟨by kernel_rfl, T.mg_len, bo_len, by decide, by decide⟩ (okL_cons (ok_sub_ ok (fun _ _ => rfl) (ok_name ok ⟨by rfl, by kernel_rfl, by decide, by decide⟩) lit_int) okL_nil (star_cons rfl)) rfl))))))))) (F.bindsN fun _ _ _ _ _ _ us hl => match us, hl with | [_], _ => rfl)
theorem cb_is_term (T : Tx M) {k : Nat} (h : 42 ≤ k) : Cb M k (He.fAd M.K ("is_term", none)) (i_is_term 40).F (i_is_term 40).n (i_is_term 40).df := cbR_is_term (gR_are_terms T 40) (Nat.le_trans (by decide) h)
theorem sc_Rule_init : FnScope ["self", "term"] ["self", "term"] (defScope st_Rule_init) := ⟨rfl, rfl, rfl, by decide +kernel, rfl, by decide +kernel, by decide +kernel⟩
theorem g_Rule_init (T : Tx M) {fd : FuncData} (F : FunD M.K "__init__" "Rule.__init__" (defArgs st_Rule_init) (defBody st_Rule_init) (defScope st_Rule_init) [] [] (He.fAd M.K ("Rule", some "__init__")) fd) : FnG M.prog M.w M.K M.mg M.base 43 (He.fAd M.K ("Rule", some "__init__")) fd ["self", "term"] (spD M 2 F_Rule_init) :=
  (fn_body (k := 42) (N := ["self", "term"]) (ps := ["self", "term"]) (kp := [0, 1]) (raw := false) F sc_Rule_init (by decide) fun W X ok =>
    (okB_cons (ok_if (okT_not (okT_tru ok (ok_callN ok (by kernel_rfl) T.gl_is_term T.kp_is_term (by decide) (cb_is_term T (by decide)) rfl rfl (by decide) (okL_cons (ok_name ok ⟨by rfl, by kernel_rfl, by decide, by decide⟩) okL_nil (star_cons rfl))) rfl)) (okB_one ok_never) okB_nil)
      (okB_one (ok_setF ok ⟨by rfl, by kernel_rfl, by decide, by decide⟩ T.fc_form (ok_callN ok (by kernel_rfl) T.gl_copied T.kp_copied (by decide) (cb_copied T (by decide)) rfl rfl (by decide) (okL_cons (ok_name ok ⟨by rfl, by kernel_rfl, by decide, by decide⟩) okL_nil (star_cons rfl))) rfl))))
theorem cb_Rule_init (T : Tx M) {k : Nat} (h : 43 ≤ k) : Cb M k (He.fAd M.K ("Rule", some "__init__")) i_Rule_init.F i_Rule_init.n i_Rule_init.df := by
  obtain ⟨fd, F⟩ := T.fn_Rule_init
  exact Cb.mono (Cb.of (g_Rule_init T F) (F.bindsN fun _ _ _ _ _ _ us hl => match us, hl with | [_, _], _ => rfl)) h
theorem sc__law_number_text : FnScope ["number", "digits", "left"] ["number"] (defScope st__law_number_text) := ⟨rfl, rfl, rfl, by decide +kernel, rfl, by decide +kernel, by decide +kernel⟩
theorem g__law_number_text (T : Tx M) {fd : FuncData} (F : FunD M.K "_law_number_text" "_law_number_text" (defArgs st__law_number_text) (defBody st__law_number_text) (defScope st__law_number_text) [] [] (He.fAd M.K ("_law_number_text", none)) fd) : FnG M.prog M.w M.K M.mg M.base 1 (He.fAd M.K ("_law_number_text", none)) fd ["number"] (spD M 1 F__law_number_text) :=
  (fn_body (k := 0) (N := ["number", "digits", "left"]) (ps := ["number"]) (kp := [0]) (raw := false) F sc__law_number_text (by decide) fun W X ok =>
    (okB_cons (ok_par' ok (by rfl) (by rfl) (by decide) (by kernel_rfl) (by kernel_rfl) (by decide) (by decide) (okL_cons lit_str (okL_cons (ok_abs ok ⟨by kernel_rfl, T.mg_abs, bo_abs, by decide, by decide⟩ (okL_cons (ok_name ok ⟨by rfl, by kernel_rfl, by decide, by decide⟩) okL_nil (star_cons rfl)) rfl) okL_nil (star_cons rfl)) (star_cons rfl)) rfl)
      (okB_cons (ok_while 4096 ok (OkW.t (okW_or (okT_ord rfl (ok_name ok ⟨by rfl, by kernel_rfl, by decide, by decide⟩) lit_int) (okW_or1 (okT_eq ok (ok_name ok ⟨by rfl, by kernel_rfl, by decide, by decide⟩) lit_str)))) (okB_one (ok_par' ok (by rfl) (by rfl) (by decide) (by kernel_rfl) (by kernel_rfl) (by decide) (by decide) (okL_cons (ok_add ok (ok_sub_ ok (fun _ _ => rfl) lit_str (ok_mod (ok_name ok ⟨by rfl, by kernel_rfl, by decide, by decide⟩) lit_int)) (ok_name ok ⟨by rfl, by kernel_rfl, by decide, by decide⟩)) (okL_cons (ok_div (ok_name ok ⟨by rfl, by kernel_rfl, by decide, by decide⟩) lit_int) okL_nil (star_cons rfl)) (star_cons rfl)) rfl)))
      (okB_one (ok_ret (ok_ite (okT_ord rfl (ok_name ok ⟨by rfl, by kernel_rfl, by decide, by decide⟩) lit_int) (ok_add ok lit_str (ok_name ok ⟨by rfl, by kernel_rfl, by decide, by decide⟩)) (ok_name ok ⟨by rfl, by kernel_rfl, by decide, by decide⟩)))))))
theorem cb__law_number_text (T : Tx M) {k : Nat} (h : 1 ≤ k) : Cb M k (He.fAd M.K ("_law_number_text", none)) i__law_number_text.F i__law_number_text.n i__law_number_text.df := by
  obtain ⟨fd, F⟩ := T.fn__law_number_text
  exact Cb.mono (Cb.of (g__law_number_text T F) (F.bindsN fun _ _ _ _ _ _ us hl => match us, hl with | [_], _ => rfl)) h
theorem sc__law_term_text : FnScope ["term", "word", "one"] ["term"] (defScope st__law_term_text) := ⟨rfl, rfl, rfl, by decide +kernel, rfl, by decide +kernel, by decide +kernel⟩
def GR__law_term_text (M : Md) (n : Nat) : Prop := Cb M (1 + n + 1) (He.fAd M.K ("_law_term_text", none)) (F__law_term_text n) 1 []
theorem cbR__law_term_text {n k : Nat} (ih : GR__law_term_text M n) (h : 1 + n + 1 ≤ k) : Cb M k (He.fAd M.K ("_law_term_text", none)) (F__law_term_text n) 1 [] := Cb.mono (ih) h
theorem gR__law_term_text (T : Tx M) : ∀ n, GR__law_term_text M n
  | 0 => by
    refine (show Cb M (1 + 0 + 1) (He.fAd M.K ("_law_term_text", none)) (F__law_term_text 0) 1 [] from ?_)
    · obtain ⟨fd, F⟩ := T.fn__law_term_text
      exact Cb.of (fn_never F sc__law_term_text) (F.bindsN fun _ _ _ _ _ _ us hl => match us, hl with | [_], _ => rfl)
  | n + 1 => by
    have ih := gR__law_term_text T n
    refine (show Cb M (1 + (n + 1) + 1) (He.fAd M.K ("_law_term_text", none)) (F__law_term_text (n + 1)) 1 [] from ?_)
    · obtain ⟨fd, F⟩ := T.fn__law_term_text
      exact Cb.of (fn_body (k := 1 + n + 1) (N := ["term", "word", "one"]) (ps := ["term"]) (kp := [0]) (raw := false) F sc__law_term_text (by decide) fun W X ok =>
    (okB_cons (ok_if (okT_eq ok (ok_sub_ ok (fun _ _ => rfl) (ok_name ok ⟨by rfl, by kernel_rfl, by decide, by decide⟩) lit_int) lit_str) (okB_one (ok_ret (ok_add ok (ok_add ok (ok_sub_ ok (fun _ _ => rfl) (ok_name ok ⟨by rfl, by kernel_rfl, by decide, by decide⟩) lit_int) lit_str) (ok_callN ok (by kernel_rfl) T.gl__law_number_text T.kp__law_number_text (by decide) (cb__law_number_text T (by omega)) rfl rfl (by decide) (okL_cons (ok_sub_ ok (fun _ _ => rfl) (ok_name ok ⟨by rfl, by kernel_rfl, by decide, by decide⟩) lit_int) okL_nil (star_cons rfl)))))) okB_nil)
      (okB_cons (ok_if (okT_eq ok (ok_sub_ ok (fun _ _ => rfl) (ok_name ok ⟨by rfl, by kernel_rfl, by decide, by decide⟩) lit_int) lit_str) (okB_one (ok_ret (ok_add ok (ok_add ok (ok_add ok lit_str (ok_sub_ ok (fun _ _ => rfl) (ok_name ok ⟨by rfl, by kernel_rfl, by decide, by decide⟩) lit_int)) lit_str) (ok_callN ok (by kernel_rfl) T.gl__law_number_text T.kp__law_number_text (by decide) (cb__law_number_text T (by omega)) rfl rfl (by decide) (okL_cons (ok_sub_ ok (fun _ _ => rfl) (ok_name ok ⟨by rfl, by kernel_rfl, by decide, by decide⟩) lit_int) okL_nil (star_cons rfl)))))) okB_nil)
      (okB_cons (ok_set ok (by rfl) (by kernel_rfl) (by decide) (ok_ite (okT_eq ok (ok_sub_ ok (fun _ _ => rfl) (ok_name ok ⟨by rfl, by kernel_rfl, by decide, by decide⟩) lit_int) lit_str) (ok_add ok (ok_add ok (ok_sub_ ok (fun _ _ => rfl) (ok_name ok ⟨by rfl, by kernel_rfl, by decide, by decide⟩) lit_int) lit_str) (ok_callN ok (by kernel_rfl) T.gl__law_number_text T.kp__law_number_text (by decide) (cb__law_number_text T (by omega)) rfl rfl (by decide) (okL_cons (ok_sub_ ok (fun _ _ => rfl) (ok_name ok ⟨by rfl, by kernel_rfl, by decide, by decide⟩) lit_int) okL_nil (star_cons rfl)))) (ok_sub_ ok (fun _ _ => rfl) (ok_name ok ⟨by rfl, by kernel_rfl, by decide, by decide⟩) lit_int)) (swaps_no rfl))
      (okB_one (ok_ret (ok_add ok (ok_add ok (ok_add ok (ok_name ok ⟨by rfl, by kernel_rfl, by decide, by decide⟩) lit_str) (ok_join ok (ok_lc (own := [("one", 2)]) ok (okI_seq ok (ok_sub_ ok (fun _ _ => rfl) (ok_name ok ⟨by rfl, by kernel_rfl, by decide, by decide⟩) (ok_neg lit_int))) (by kernel_rfl) (fun _ ok' => ⟨(okG_name ok' (by rfl) (by kernel_rfl) (by decide +kernel)), okTs_nil, (ok_callN ok' (by kernel_rfl) T.gl__law_term_text T.kp__law_term_text (by decide) (cbR__law_term_text ih (Nat.le_refl _)) rfl rfl (Nat.le_of_ble_eq_true rfl) (okL_cons (ok_name ok' ⟨by rfl, by kernel_rfl, by decide, by decide⟩) okL_nil (star_cons rfl)))⟩) rfl) rfl rfl)) lit_str))))))) (F.bindsN fun _ _ _ _ _ _ us hl => match us, hl with | [_], _ => rfl)
theorem cb__law_term_text (T : Tx M) {k : Nat} (h : 42 ≤ k) : Cb M k (He.fAd M.K ("_law_term_text", none)) (i__law_term_text 40).F (i__law_term_text 40).n (i__law_term_text 40).df := cbR__law_term_text (gR__law_term_text T 40) (Nat.le_trans (by decide) h)
theorem sc_whole_of : FnScope ["word", "digits", "sign"] ["word"] (defScope st_whole_of) := ⟨rfl, rfl, rfl, by decide +kernel, rfl, by decide +kernel, by decide +kernel⟩
theorem g_whole_of (T : Tx M) {fd : FuncData} (F : FunD M.K "whole_of" "whole_of" (defArgs st_whole_of) (defBody st_whole_of) (defScope st_whole_of) [] [] (He.fAd M.K ("whole_of", none)) fd) : FnG M.prog M.w M.K M.mg M.base 1 (He.fAd M.K ("whole_of", none)) fd ["word"] (spD M 1 F_whole_of) :=
  (fn_body (k := 0) (N := ["word", "digits", "sign"]) (ps := ["word"]) (kp := [0]) (raw := false) F sc_whole_of (by decide) fun W X ok =>
    (okB_cons (ok_set ok (by rfl) (by kernel_rfl) (by decide) (ok_ite (okT_eq ok (ok_sliceS ok (ok_name ok ⟨by rfl, by kernel_rfl, by decide, by decide⟩) trivial lit_int) lit_str) (ok_sliceS ok (ok_name ok ⟨by rfl, by kernel_rfl, by decide, by decide⟩) lit_int trivial) (ok_name ok ⟨by rfl, by kernel_rfl, by decide, by decide⟩)) (swaps_no rfl))
      (okB_cons (ok_if (OkW.t (okW_or (okT_eq ok (ok_name ok ⟨by rfl, by kernel_rfl, by decide, by decide⟩) lit_str) (okW_or1 (okT_ne ok (ok_lc (own := [("sign", 2)]) ok (okI_str (ok_name ok ⟨by rfl, by kernel_rfl, by decide, by decide⟩)) (by kernel_rfl) (fun _ ok' => ⟨(okG_name ok' (by rfl) (by kernel_rfl) (by decide +kernel)), (okTs_one (okT_notIn ok' rfl (ok_name ok' ⟨by rfl, by kernel_rfl, by decide, by decide⟩) lit_str)), (ok_name ok' ⟨by rfl, by kernel_rfl, by decide, by decide⟩)⟩) rfl) (ok_list okL_nil))))) (okB_one (ok_ret lit_non)) okB_nil)
      (okB_one (ok_ret (ok_ite (OkW.t (okW_and (okT_eq ok (ok_sub_ ok (fun _ _ => rfl) (ok_name ok ⟨by rfl, by kernel_rfl, by decide, by decide⟩) lit_int) lit_str) (okW_and1 (okT_ne ok (ok_name ok ⟨by rfl, by kernel_rfl, by decide, by decide⟩) lit_str)))) lit_non (ok_intS ok ⟨by kernel_rfl, T.mg_int, bo_int, by decide, by decide⟩ (okL_cons (ok_name ok ⟨by rfl, by kernel_rfl, by decide, by decide⟩) okL_nil (star_cons rfl)) rfl)))))))
theorem cb_whole_of (T : Tx M) {k : Nat} (h : 1 ≤ k) : Cb M k (He.fAd M.K ("whole_of", none)) i_whole_of.F i_whole_of.n i_whole_of.df := by
  obtain ⟨fd, F⟩ := T.fn_whole_of
  exact Cb.mono (Cb.of (g_whole_of T F) (F.bindsN fun _ _ _ _ _ _ us hl => match us, hl with | [_], _ => rfl)) h
theorem sc_named_at : FnScope ["text", "at", "end", "last", "number"] ["text", "at"] (defScope st_named_at) := ⟨rfl, rfl, rfl, by decide +kernel, rfl, by decide +kernel, by decide +kernel⟩
theorem g_named_at (T : Tx M) {fd : FuncData} (F : FunD M.K "named_at" "named_at" (defArgs st_named_at) (defBody st_named_at) (defScope st_named_at) [] [] (He.fAd M.K ("named_at", none)) fd) : FnG M.prog M.w M.K M.mg M.base 2 (He.fAd M.K ("named_at", none)) fd ["text", "at"] (spD M 2 F_named_at) :=
  (fn_body (k := 1) (N := ["text", "at", "end", "last", "number"]) (ps := ["text", "at"]) (kp := [0, 1]) (raw := false) F sc_named_at (by decide) fun W X ok =>
    (okB_cons (ok_set ok (by rfl) (by kernel_rfl) (by decide) (ok_name ok ⟨by rfl, by kernel_rfl, by decide, by decide⟩) (swaps_no rfl))
      (okB_cons (ok_while 4096 ok (OkW.t (okW_and (okT_ord rfl (ok_name ok ⟨by rfl, by kernel_rfl, by decide, by decide⟩) (ok_len ok ⟨by kernel_rfl, T.mg_len, bo_len, by decide, by decide⟩ (okL_cons (ok_name ok ⟨by rfl, by kernel_rfl, by decide, by decide⟩) okL_nil (star_cons rfl)) rfl)) (okW_and1 (okT_in ok rfl (ok_sub_ ok (fun _ _ => rfl) (ok_name ok ⟨by rfl, by kernel_rfl, by decide, by decide⟩) (ok_name ok ⟨by rfl, by kernel_rfl, by decide, by decide⟩)) (ok_glob ok ⟨by kernel_rfl, by decide, T.gc_LETTERS⟩))))) (okB_one (ok_set ok (by rfl) (by kernel_rfl) (by decide) (ok_add ok (ok_name ok ⟨by rfl, by kernel_rfl, by decide, by decide⟩) lit_int) (swaps_no rfl))))
      (okB_cons (ok_set ok (by rfl) (by kernel_rfl) (by decide) (ok_add ok (ok_name ok ⟨by rfl, by kernel_rfl, by decide, by decide⟩) lit_int) (swaps_no rfl))
      (okB_cons (ok_while 4096 ok (OkW.t (okW_and (okT_ord rfl (ok_name ok ⟨by rfl, by kernel_rfl, by decide, by decide⟩) (ok_len ok ⟨by kernel_rfl, T.mg_len, bo_len, by decide, by decide⟩ (okL_cons (ok_name ok ⟨by rfl, by kernel_rfl, by decide, by decide⟩) okL_nil (star_cons rfl)) rfl)) (okW_and1 (okT_in ok rfl (ok_sub_ ok (fun _ _ => rfl) (ok_name ok ⟨by rfl, by kernel_rfl, by decide, by decide⟩) (ok_name ok ⟨by rfl, by kernel_rfl, by decide, by decide⟩)) lit_str)))) (okB_one (ok_set ok (by rfl) (by kernel_rfl) (by decide) (ok_add ok (ok_name ok ⟨by rfl, by kernel_rfl, by decide, by decide⟩) lit_int) (swaps_no rfl))))
      (okB_cons (ok_set ok (by rfl) (by kernel_rfl) (by decide) (ok_callN ok (by kernel_rfl) T.gl_whole_of T.kp_whole_of (by decide) (cb_whole_of T (by decide)) rfl rfl (by decide) (okL_cons (ok_sliceS ok (ok_name ok ⟨by rfl, by kernel_rfl, by decide, by decide⟩) (ok_add ok (ok_name ok ⟨by rfl, by kernel_rfl, by decide, by decide⟩) lit_int) (ok_name ok ⟨by rfl, by kernel_rfl, by decide, by decide⟩)) okL_nil (star_cons rfl))) (swaps_no rfl))
      (okB_cons (ok_if (OkW.t (okW_or (okT_not (okT_tru ok (ok_callN ok (by kernel_rfl) T.gl_is_name T.kp_is_name (by decide) (cb_is_name T (by decide)) rfl rfl (by decide) (okL_cons (ok_sliceS ok (ok_name ok ⟨by rfl, by kernel_rfl, by decide, by decide⟩) (ok_name ok ⟨by rfl, by kernel_rfl, by decide, by decide⟩) (ok_name ok ⟨by rfl, by kernel_rfl, by decide, by decide⟩)) okL_nil (star_cons rfl))) rfl)) (okW_or (okT_ne ok (ok_sliceS ok (ok_name ok ⟨by rfl, by kernel_rfl, by decide, by decide⟩) (ok_name ok ⟨by rfl, by kernel_rfl, by decide, by decide⟩) (ok_add ok (ok_name ok ⟨by rfl, by kernel_rfl, by decide, by decide⟩) lit_int)) lit_str) (okW_or1 (okT_isN (ok_name ok ⟨by rfl, by kernel_rfl, by decide, by decide⟩) lit_non))))) (okB_one (ok_ret lit_non)) okB_nil)
      (okB_one (ok_ret (ok_tup (okL_cons (ok_sliceS ok (ok_name ok ⟨by rfl, by kernel_rfl, by decide, by decide⟩) (ok_name ok ⟨by rfl, by kernel_rfl, by decide, by decide⟩) (ok_name ok ⟨by rfl, by kernel_rfl, by decide, by decide⟩)) (okL_cons (ok_name ok ⟨by rfl, by kernel_rfl, by decide, by decide⟩) (okL_cons (ok_name ok ⟨by rfl, by kernel_rfl, by decide, by decide⟩) okL_nil (star_cons rfl)) (star_cons rfl)) (star_cons rfl))))))))))))
theorem cb_named_at (T : Tx M) {k : Nat} (h : 2 ≤ k) : Cb M k (He.fAd M.K ("named_at", none)) i_named_at.F i_named_at.n i_named_at.df := by
  obtain ⟨fd, F⟩ := T.fn_named_at
  exact Cb.mono (Cb.of (g_named_at T F) (F.bindsN fun _ _ _ _ _ _ us hl => match us, hl with | [_, _], _ => rfl)) h
theorem sc_terms_at : FnScope ["text", "at", "found", "one"] ["text", "at"] (defScope st_terms_at) := ⟨rfl, rfl, rfl, by decide +kernel, rfl, by decide +kernel, by decide +kernel⟩
theorem sc_term_at : FnScope ["text", "at", "word", "inner", "part"] ["text", "at"] (defScope st_term_at) := ⟨rfl, rfl, rfl, by decide +kernel, rfl, by decide +kernel, by decide +kernel⟩
def GR_terms_at (M : Md) (n : Nat) : Prop := Cb M (2 + n + 1) (He.fAd M.K ("terms_at", none)) (F_terms_at n) 2 [] ∧ Cb M (2 + n + 1) (He.fAd M.K ("term_at", none)) (F_term_at n) 2 []
theorem cbR_terms_at {n k : Nat} (ih : GR_terms_at M n) (h : 2 + n + 1 ≤ k) : Cb M k (He.fAd M.K ("terms_at", none)) (F_terms_at n) 2 [] := Cb.mono (ih.1) h
theorem cbR_term_at {n k : Nat} (ih : GR_terms_at M n) (h : 2 + n + 1 ≤ k) : Cb M k (He.fAd M.K ("term_at", none)) (F_term_at n) 2 [] := Cb.mono (ih.2) h
theorem gR_terms_at (T : Tx M) : ∀ n, GR_terms_at M n
  | 0 => by
    refine ⟨?_, ?_⟩
    · obtain ⟨fd, F⟩ := T.fn_terms_at
      exact Cb.of (fn_never F sc_terms_at) (F.bindsN fun _ _ _ _ _ _ us hl => match us, hl with | [_, _], _ => rfl)
    · obtain ⟨fd, F⟩ := T.fn_term_at
      exact Cb.of (fn_never F sc_term_at) (F.bindsN fun _ _ _ _ _ _ us hl => match us, hl with | [_, _], _ => rfl)
  | n + 1 => by
    have ih := gR_terms_at T n
    refine ⟨?_, ?_⟩
    · obtain ⟨fd, F⟩ := T.fn_terms_at
      exact Cb.of (fn_body (k := 2 + n + 1) (N := ["text", "at", "found", "one"]) (ps := ["text", "at"]) (kp := [0]) (raw := false) F sc_terms_at (by decide) fun W X ok =>
    (okB_cons (ok_set ok (by rfl) (by kernel_rfl) (by decide) (ok_list okL_nil) (swaps_no rfl))
      (okB_cons (ok_while 4096 ok (OkW.t (okW_or (okT_eq ok (ok_name ok ⟨by rfl, by kernel_rfl, by decide, by decide⟩) (ok_list okL_nil)) (okW_or1 (okT_eq ok (ok_sliceS ok (ok_name ok ⟨by rfl, by kernel_rfl, by decide, by decide⟩) (ok_sub (ok_name ok ⟨by rfl, by kernel_rfl, by decide, by decide⟩) lit_int) (ok_name ok ⟨by rfl, by kernel_rfl, by decide, by decide⟩)) lit_str)))) (okB_cons (ok_set ok (by rfl) (by kernel_rfl) (by decide) (ok_callN ok (by kernel_rfl) T.gl_term_at T.kp_term_at (by decide) (cbR_term_at ih (Nat.le_refl _)) rfl rfl (Nat.le_of_ble_eq_true rfl) (okL_cons (ok_name ok ⟨by rfl, by kernel_rfl, by decide, by decide⟩) (okL_cons (ok_name ok ⟨by rfl, by kernel_rfl, by decide, by decide⟩) okL_nil (star_cons rfl)) (star_cons rfl))) (swaps_no rfl))
      (okB_cons (ok_if (okT_isN (ok_name ok ⟨by rfl, by kernel_rfl, by decide, by decide⟩) lit_non) (okB_one (ok_ret lit_non)) okB_nil)
      (okB_cons (ok_expr (ok_append ok ⟨by rfl, by kernel_rfl, by decide, by decide⟩ (ok_sub_ ok (fun _ _ => rfl) (ok_name ok ⟨by rfl, by kernel_rfl, by decide, by decide⟩) lit_int) rfl rfl) rfl)
      (okB_cons (ok_if (okT_eq ok (ok_sliceS ok (ok_name ok ⟨by rfl, by kernel_rfl, by decide, by decide⟩) (ok_sub_ ok (fun _ _ => rfl) (ok_name ok ⟨by rfl, by kernel_rfl, by decide, by decide⟩) lit_int) (ok_add ok (ok_sub_ ok (fun _ _ => rfl) (ok_name ok ⟨by rfl, by kernel_rfl, by decide, by decide⟩) lit_int) lit_int)) lit_str) (okB_one (ok_ret (ok_tup (okL_cons (ok_name ok ⟨by rfl, by kernel_rfl, by decide, by decide⟩) (okL_cons (ok_add ok (ok_sub_ ok (fun _ _ => rfl) (ok_name ok ⟨by rfl, by kernel_rfl, by decide, by decide⟩) lit_int) lit_int) okL_nil (star_cons rfl)) (star_cons rfl))))) okB_nil)
      (okB_one (ok_set ok (by rfl) (by kernel_rfl) (by decide) (ok_add ok (ok_sub_ ok (fun _ _ => rfl) (ok_name ok ⟨by rfl, by kernel_rfl, by decide, by decide⟩) lit_int) lit_int) (swaps_no rfl))))))))
      (okB_one (ok_ret lit_non))))) (F.bindsN fun _ _ _ _ _ _ us hl => match us, hl with | [_, _], _ => rfl)
    · obtain ⟨fd, F⟩ := T.fn_term_at
      exact Cb.of (fn_body (k := 2 + n + 1) (N := ["text", "at", "word", "inner", "part"]) (ps := ["text", "at"]) (kp := [0, 1]) (raw := false) F sc_term_at (by decide) fun W X ok =>
    (okB_cons (ok_for ok (okI_seq ok (ok_tup (okL_cons lit_str (okL_cons lit_str okL_nil (star_cons rfl)) (star_cons rfl)))) (okG_name ok (by rfl) (by kernel_rfl) (by decide +kernel)) (okB_one (ok_if (okT_tru ok (ok_starts ok ⟨by rfl, by kernel_rfl, by decide, by decide⟩ (okL_cons (ok_add ok (ok_name ok ⟨by rfl, by kernel_rfl, by decide, by decide⟩) lit_str) (okL_cons (ok_name ok ⟨by rfl, by kernel_rfl, by decide, by decide⟩) okL_nil (star_cons rfl)) (star_cons rfl)) rfl rfl rfl) rfl) (okB_cons (ok_set ok (by rfl) (by kernel_rfl) (by decide) (ok_callN ok (by kernel_rfl) T.gl_terms_at T.kp_terms_at (by decide) (cbR_terms_at ih (Nat.le_refl _)) rfl rfl (Nat.le_of_ble_eq_true rfl) (okL_cons (ok_name ok ⟨by rfl, by kernel_rfl, by decide, by decide⟩) (okL_cons (ok_add ok (ok_add ok (ok_name ok ⟨by rfl, by kernel_rfl, by decide, by decide⟩) (ok_len ok ⟨by kernel_rfl, T.mg_len, bo_len, by decide, by decide⟩ (okL_cons (ok_name ok ⟨by rfl, by kernel_rfl, by decide, by decide⟩) okL_nil (star_cons rfl)) rfl)) lit_int) okL_nil (star_cons rfl)) (star_cons rfl))) (swaps_no rfl))
      (okB_one (ok_ret (ok_ite (okT_isN (ok_name ok ⟨by rfl, by kernel_rfl, by decide, by decide⟩) lit_non) lit_non (ok_tup (okL_cons (ok_tup (okL_cons (ok_name ok ⟨by rfl, by kernel_rfl, by decide, by decide⟩) (okL_cons (ok_sub_ ok (fun _ _ => rfl) (ok_name ok ⟨by rfl, by kernel_rfl, by decide, by decide⟩) lit_int) okL_nil (star_cons rfl)) (star_cons rfl))) (okL_cons (ok_sub_ ok (fun _ _ => rfl) (ok_name ok ⟨by rfl, by kernel_rfl, by decide, by decide⟩) lit_int) okL_nil (star_cons rfl)) (star_cons rfl))))))) okB_nil)) rfl)
      (okB_cons (ok_if (OkW.t (okW_and (okT_tru ok (ok_starts ok ⟨by rfl, by kernel_rfl, by decide, by decide⟩ (okL_cons lit_str (okL_cons (ok_name ok ⟨by rfl, by kernel_rfl, by decide, by decide⟩) okL_nil (star_cons rfl)) (star_cons rfl)) rfl rfl rfl) rfl) (okW_and1 (okT_in ok rfl (ok_sliceS ok (ok_name ok ⟨by rfl, by kernel_rfl, by decide, by decide⟩) (ok_add ok (ok_name ok ⟨by rfl, by kernel_rfl, by decide, by decide⟩) lit_int) (ok_add ok (ok_name ok ⟨by rfl, by kernel_rfl, by decide, by decide⟩) lit_int)) (ok_glob ok ⟨by kernel_rfl, by decide, T.gc_LETTERS⟩))))) (okB_cons (ok_set ok (by rfl) (by kernel_rfl) (by decide) (ok_callN ok (by kernel_rfl) T.gl_named_at T.kp_named_at (by decide) (cb_named_at T (by omega)) rfl rfl (by decide) (okL_cons (ok_name ok ⟨by rfl, by kernel_rfl, by decide, by decide⟩) (okL_cons (ok_add ok (ok_name ok ⟨by rfl, by kernel_rfl, by decide, by decide⟩) lit_int) okL_nil (star_cons rfl)) (star_cons rfl))) (swaps_no rfl))
      (okB_one (ok_ret (ok_ite (okT_isN (ok_name ok ⟨by rfl, by kernel_rfl, by decide, by decide⟩) lit_non) lit_non (ok_tup (okL_cons (ok_tup (okL_cons lit_str (okL_cons (ok_sub_ ok (fun _ _ => rfl) (ok_name ok ⟨by rfl, by kernel_rfl, by decide, by decide⟩) lit_int) (okL_cons (ok_sub_ ok (fun _ _ => rfl) (ok_name ok ⟨by rfl, by kernel_rfl, by decide, by decide⟩) lit_int) okL_nil (star_cons rfl)) (star_cons rfl)) (star_cons rfl))) (okL_cons (ok_sub_ ok (fun _ _ => rfl) (ok_name ok ⟨by rfl, by kernel_rfl, by decide, by decide⟩) lit_int) okL_nil (star_cons rfl)) (star_cons rfl))))))) okB_nil)
      (okB_cons (ok_set ok (by rfl) (by kernel_rfl) (by decide) (ok_callN ok (by kernel_rfl) T.gl_named_at T.kp_named_at (by decide) (cb_named_at T (by omega)) rfl rfl (by decide) (okL_cons (ok_name ok ⟨by rfl, by kernel_rfl, by decide, by decide⟩) (okL_cons (ok_name ok ⟨by rfl, by kernel_rfl, by decide, by decide⟩) okL_nil (star_cons rfl)) (star_cons rfl))) (swaps_no rfl))
      (okB_cons (ok_if (OkW.t (okW_or (okT_isN (ok_name ok ⟨by rfl, by kernel_rfl, by decide, by decide⟩) lit_non) (okW_or (okT_ne ok (ok_sub_ ok (fun _ _ => rfl) (ok_name ok ⟨by rfl, by kernel_rfl, by decide, by decide⟩) lit_int) lit_str) (okW_or1 (okT_ne ok (ok_sliceS ok (ok_name ok ⟨by rfl, by kernel_rfl, by decide, by decide⟩) (ok_sub_ ok (fun _ _ => rfl) (ok_name ok ⟨by rfl, by kernel_rfl, by decide, by decide⟩) lit_int) (ok_add ok (ok_sub_ ok (fun _ _ => rfl) (ok_name ok ⟨by rfl, by kernel_rfl, by decide, by decide⟩) lit_int) lit_int)) lit_str))))) (okB_one (ok_ret (ok_ite (okT_isN (ok_name ok ⟨by rfl, by kernel_rfl, by decide, by decide⟩) lit_non) lit_non (ok_tup (okL_cons (ok_tup (okL_cons lit_str (okL_cons (ok_sub_ ok (fun _ _ => rfl) (ok_name ok ⟨by rfl, by kernel_rfl, by decide, by decide⟩) lit_int) (okL_cons (ok_sub_ ok (fun _ _ => rfl) (ok_name ok ⟨by rfl, by kernel_rfl, by decide, by decide⟩) lit_int) okL_nil (star_cons rfl)) (star_cons rfl)) (star_cons rfl))) (okL_cons (ok_sub_ ok (fun _ _ => rfl) (ok_name ok ⟨by rfl, by kernel_rfl, by decide, by decide⟩) lit_int) okL_nil (star_cons rfl)) (star_cons rfl)))))) okB_nil)
      (okB_cons (ok_set ok (by rfl) (by kernel_rfl) (by decide) (ok_callN ok (by kernel_rfl) T.gl_terms_at T.kp_terms_at (by decide) (cbR_terms_at ih (Nat.le_refl _)) rfl rfl (Nat.le_of_ble_eq_true rfl) (okL_cons (ok_name ok ⟨by rfl, by kernel_rfl, by decide, by decide⟩) (okL_cons (ok_add ok (ok_sub_ ok (fun _ _ => rfl) (ok_name ok ⟨by rfl, by kernel_rfl, by decide, by decide⟩) lit_int) lit_int) okL_nil (star_cons rfl)) (star_cons rfl))) (swaps_no rfl))
      (okB_cons (ok_if (OkW.t (okW_or (okT_isN (ok_name ok ⟨by rfl, by kernel_rfl, by decide, by decide⟩) lit_non) (okW_or (okT_ord rfl (ok_sub_ ok (fun _ _ => rfl) (ok_name ok ⟨by rfl, by kernel_rfl, by decide, by decide⟩) lit_int) lit_int) (okW_or1 (okT_ord rfl (ok_sub_ ok (fun _ _ => rfl) (ok_name ok ⟨by rfl, by kernel_rfl, by decide, by decide⟩) lit_int) (ok_len ok ⟨by kernel_rfl, T.mg_len, bo_len, by decide, by decide⟩ (okL_cons (ok_sub_ ok (fun _ _ => rfl) (ok_name ok ⟨by rfl, by kernel_rfl, by decide, by decide⟩) lit_int) okL_nil (star_cons rfl)) rfl)))))) (okB_one (ok_ret lit_non)) okB_nil)
      (okB_one (ok_ret (ok_tup (okL_cons (ok_tup (okL_cons lit_str (okL_cons (ok_sub_ ok (fun _ _ => rfl) (ok_name ok ⟨by rfl, by kernel_rfl, by decide, by decide⟩) lit_int) (okL_cons (ok_sub_ ok (fun _ _ => rfl) (ok_name ok ⟨by rfl, by kernel_rfl, by decide, by decide⟩) lit_int) okL_nil (star_cons rfl)) (star_cons rfl)) (star_cons rfl))) (okL_cons (ok_sub_ ok (fun _ _ => rfl) (ok_name ok ⟨by rfl, by kernel_rfl, by decide, by decide⟩) lit_int) okL_nil (star_cons rfl)) (star_cons rfl)))))))))))) (F.bindsN fun _ _ _ _ _ _ us hl => match us, hl with | [_, _], _ => rfl)
theorem cb_term_at (T : Tx M) {k : Nat} (h : 43 ≤ k) : Cb M k (He.fAd M.K ("term_at", none)) (i_term_at 40).F (i_term_at 40).n (i_term_at 40).df := cbR_term_at (gR_terms_at T 40) (Nat.le_trans (by decide) h)
theorem sc_rule_in : FnScope ["text", "found"] ["text"] (defScope st_rule_in) := ⟨rfl, rfl, rfl, by decide +kernel, rfl, by decide +kernel, by decide +kernel⟩
theorem g_rule_in (T : Tx M) {fd : FuncData} (F : FunD M.K "rule_in" "rule_in" (defArgs st_rule_in) (defBody st_rule_in) (defScope st_rule_in) [] [] (He.fAd M.K ("rule_in", none)) fd) : FnG M.prog M.w M.K M.mg M.base 45 (He.fAd M.K ("rule_in", none)) fd ["text"] (spD M 1 F_rule_in) :=
  (fn_body (k := 44) (N := ["text", "found"]) (ps := ["text"]) (kp := [0]) (raw := false) F sc_rule_in (by decide) fun W X ok =>
    (okB_cons (ok_set ok (by rfl) (by kernel_rfl) (by decide) (ok_callN ok (by kernel_rfl) T.gl_term_at T.kp_term_at (by decide) (cb_term_at T (by decide)) rfl rfl (by decide) (okL_cons (ok_name ok ⟨by rfl, by kernel_rfl, by decide, by decide⟩) (okL_cons lit_int okL_nil (star_cons rfl)) (star_cons rfl))) (swaps_no rfl))
      (okB_one (ok_ret (ok_ite (OkW.t (okW_or (okT_isN (ok_name ok ⟨by rfl, by kernel_rfl, by decide, by decide⟩) lit_non) (okW_or1 (okT_ne ok (ok_sub_ ok (fun _ _ => rfl) (ok_name ok ⟨by rfl, by kernel_rfl, by decide, by decide⟩) lit_int) (ok_len ok ⟨by kernel_rfl, T.mg_len, bo_len, by decide, by decide⟩ (okL_cons (ok_name ok ⟨by rfl, by kernel_rfl, by decide, by decide⟩) okL_nil (star_cons rfl)) rfl))))) lit_non (ok_makeN ok (by kernel_rfl) T.gl_Rule T.mk_Rule (by decide) (cb_Rule_init T (by decide)) rfl rfl (by decide) (okL_cons (ok_sub_ ok (fun _ _ => rfl) (ok_name ok ⟨by rfl, by kernel_rfl, by decide, by decide⟩) lit_int) okL_nil (star_cons rfl))))))))
theorem cb_rule_in (T : Tx M) {k : Nat} (h : 45 ≤ k) : Cb M k (He.fAd M.K ("rule_in", none)) i_rule_in.F i_rule_in.n i_rule_in.df := by
  obtain ⟨fd, F⟩ := T.fn_rule_in
  exact Cb.mono (Cb.of (g_rule_in T F) (F.bindsN fun _ _ _ _ _ _ us hl => match us, hl with | [_], _ => rfl)) h
theorem fvT_ok (T : Tx M) {k : Nat} (h : 45 ≤ k) : FvOk M k 1 fnT := ⟨fun c i e => by
  match c, e with
  | 100, e =>
    cases e
    exact ⟨T.fv_rule_in ▸ cb_rule_in T (Nat.le_trans (by decide) h), T.fv_rule_in ▸ T.kp_rule_in, by decide⟩⟩
theorem sc_read_by : FnScope ["inner", "text", "found"] ["inner", "text"] (defScope st_read_by) := ⟨rfl, rfl, rfl, by decide +kernel, rfl, by decide +kernel, by decide +kernel⟩
theorem g_read_by (T : Tx M) {fd : FuncData} (F : FunD M.K "read_by" "read_by" (defArgs st_read_by) (defBody st_read_by) (defScope st_read_by) [] [] (He.fAd M.K ("read_by", none)) fd) : FnG M.prog M.w M.K M.mg M.base 46 (He.fAd M.K ("read_by", none)) fd ["inner", "text"] (spD M 2 F_read_by) :=
  (fn_body (k := 45) (N := ["inner", "text", "found"]) (ps := ["inner", "text"]) (kp := [0, 1]) (raw := false) F sc_read_by (by decide) fun W X ok =>
    (okB_cons (ok_set ok (by rfl) (by kernel_rfl) (by decide) lit_non (swaps_no rfl))
      (okB_cons (ok_if (okT_tru ok (ok_isi ok ⟨by kernel_rfl, T.mg_isinstance, bo_isinstance, by decide, by decide⟩ (pe_tyN ok ⟨by kernel_rfl, T.mg_str, bo_str, by decide, by decide⟩) (.ty _) T.is_str (ok_name ok ⟨by rfl, by kernel_rfl, by decide, by decide⟩) rfl rfl) rfl) (okB_one (ok_try0 ok (fun okT => (okB_one (ok_set okT (by rfl) (by kernel_rfl) (by decide) (ok_callV okT ⟨by rfl, by kernel_rfl, by decide, by decide⟩ (fvT_ok T (by decide)) rfl rfl (okL_cons (ok_name okT ⟨by rfl, by kernel_rfl, by decide, by decide⟩) okL_nil (star_cons rfl))) (swaps_no rfl)))))) okB_nil)
      (okB_cons (ok_if (okT_isN (ok_name ok ⟨by rfl, by kernel_rfl, by decide, by decide⟩) lit_non) (okB_one ok_never) okB_nil)
      (okB_one (ok_ret (ok_name ok ⟨by rfl, by kernel_rfl, by decide, by decide⟩)))))))
theorem cb_read_by (T : Tx M) {k : Nat} (h : 46 ≤ k) : Cb M k (He.fAd M.K ("read_by", none)) i_read_by.F i_read_by.n i_read_by.df := by
  obtain ⟨fd, F⟩ := T.fn_read_by
  exact Cb.mono (Cb.of (g_read_by T F) (F.bindsN fun _ _ _ _ _ _ us hl => match us, hl with | [_, _], _ => rfl)) h
theorem sc_read_rule : FnScope ["text"] ["text"] (defScope st_read_rule) := ⟨rfl, rfl, rfl, by decide +kernel, rfl, by decide +kernel, by decide +kernel⟩
theorem g_read_rule (T : Tx M) {fd : FuncData} (F : FunD M.K "read_rule" "read_rule" (defArgs st_read_rule) (defBody st_read_rule) (defScope st_read_rule) [] [] (He.fAd M.K ("read_rule", none)) fd) : FnG M.prog M.w M.K M.mg M.base 47 (He.fAd M.K ("read_rule", none)) fd ["text"] (spD M 1 F_read_rule) :=
  (fn_body (k := 46) (N := ["text"]) (ps := ["text"]) (kp := [0]) (raw := false) F sc_read_rule (by decide) fun W X ok =>
    (okB_one (ok_ret (ok_callN ok (by kernel_rfl) T.gl_read_by T.kp_read_by (by decide) (cb_read_by T (by decide)) rfl rfl (by decide) (okL_cons (ok_glob ok ⟨by kernel_rfl, by decide, T.gv_rule_in⟩) (okL_cons (ok_name ok ⟨by rfl, by kernel_rfl, by decide, by decide⟩) okL_nil (star_cons rfl)) (star_cons rfl))))))
theorem cb_read_rule (T : Tx M) {k : Nat} (h : 47 ≤ k) : Cb M k (He.fAd M.K ("read_rule", none)) i_read_rule.F i_read_rule.n i_read_rule.df := by
  obtain ⟨fd, F⟩ := T.fn_read_rule
  exact Cb.mono (Cb.of (g_read_rule T F) (F.bindsN fun _ _ _ _ _ _ us hl => match us, hl with | [_], _ => rfl)) h
theorem sc_Rule_eq : FnScope ["self", "other"] ["self", "other"] (defScope st_Rule_eq) := ⟨rfl, rfl, rfl, by decide +kernel, rfl, by decide +kernel, by decide +kernel⟩
theorem g_Rule_eq (T : Tx M) {fd : FuncData} (F : FunD M.K "__eq__" "Rule.__eq__" (defArgs st_Rule_eq) (defBody st_Rule_eq) (defScope st_Rule_eq) [] [] (He.fAd M.K ("Rule", some "__eq__")) fd) : FnG M.prog M.w M.K M.mg M.base 1 (He.fAd M.K ("Rule", some "__eq__")) fd ["self", "other"] (spD M 2 F_Rule_eq) :=
  (fn_body (k := 0) (N := ["self", "other"]) (ps := ["self", "other"]) (kp := [0, 1]) (raw := false) F sc_Rule_eq (by decide) fun W X ok =>
    (okB_one (ok_ret (ok_and (ok_isi ok ⟨by kernel_rfl, T.mg_isinstance, bo_isinstance, by decide, by decide⟩ (pe_clsN (c := 0) ok (by kernel_rfl) T.gl_Rule (by decide)) (.own _) T.is_Rule (ok_name ok ⟨by rfl, by kernel_rfl, by decide, by decide⟩) rfl rfl) (ok_one (ok_eq ok (ok_attr ok T.fc_form (fun _ _ z => nomatch z) (ok_name ok ⟨by rfl, by kernel_rfl, by decide, by decide⟩) rfl) (ok_attr ok T.fc_form (fun _ _ z => nomatch z) (ok_name ok ⟨by rfl, by kernel_rfl, by decide, by decide⟩) rfl)))))))
theorem cb_Rule_eq (T : Tx M) {k : Nat} (h : 1 ≤ k) : Cb M k (He.fAd M.K ("Rule", some "__eq__")) i_Rule_eq.F i_Rule_eq.n i_Rule_eq.df := by
  obtain ⟨fd, F⟩ := T.fn_Rule_eq
  exact Cb.mono (Cb.of (g_Rule_eq T F) (F.bindsN fun _ _ _ _ _ _ us hl => match us, hl with | [_, _], _ => rfl)) h
theorem eqT_ok (T : Tx M) {k : Nat} (h : 1 ≤ k) : EqOk M k eqT := by
  intro c i e
  match c, e with
  | 0, e =>
    cases e
    exact ⟨_, T.me_Rule___eq__.at_, T.me_Rule___eq__.fn, cb_Rule_eq T (Nat.le_trans (by decide) h), by decide⟩
theorem sc_law : FnScope ["script", "purse", "texts", "terms", "unlike", "term", "text", "one", "other"] ["script"] (defScope st_law) := ⟨rfl, rfl, rfl, by decide +kernel, rfl, by decide +kernel, by decide +kernel⟩
theorem g_law (T : Tx M) {fd : FuncData} (F : FunD M.K "law" "law" (defArgs st_law) (defBody st_law) (defScope st_law) [] [] (He.fAd M.K ("law", none)) fd) : FnG M.prog M.w M.K M.mg M.base 48 (He.fAd M.K ("law", none)) fd ["script"] (spD M 1 F_law) :=
  (fn_body (k := 47) (N := ["script", "purse", "texts", "terms", "unlike", "term", "text", "one", "other"]) (ps := ["script"]) (kp := [0]) (raw := false) F sc_law (by decide) fun W X ok =>
    (okB_cons (ok_for ok (okI_seq ok (ok_callN ok (by kernel_rfl) T.gl__law_purses T.kp__law_purses (by decide) (cb__law_purses T (by decide)) rfl rfl (by decide) (okL_cons (ok_name ok ⟨by rfl, by kernel_rfl, by decide, by decide⟩) (okL_cons lit_int okL_nil (star_cons rfl)) (star_cons rfl)))) (okG_name ok (by rfl) (by kernel_rfl) (by decide +kernel)) (okB_cons (ok_asg' ok (ok_tup (okL_cons (ok_dict ok ⟨by kernel_rfl, T.mg_dict, bo_dict, by decide, by decide⟩ (okL_cons (ok_list okL_nil) okL_nil (star_cons rfl)) rfl) (okL_cons (ok_callN ok (by kernel_rfl) T.gl__law_terms T.kp__law_terms (by decide) (cb__law_terms T (by decide)) rfl rfl (by decide) (okL_cons (ok_name ok ⟨by rfl, by kernel_rfl, by decide, by decide⟩) okL_nil (star_cons rfl))) (okL_cons (ok_list okL_nil) okL_nil (star_cons rfl)) (star_cons rfl)) (star_cons rfl))) (okG_tup ok (okGs_cons (okG_name ok (by rfl) (by kernel_rfl) (by decide +kernel)) (okGs_cons (okG_name ok (by rfl) (by kernel_rfl) (by decide +kernel)) (okGs_cons (okG_name ok (by rfl) (by kernel_rfl) (by decide +kernel)) okGs_nil rfl) rfl) rfl) rfl (fun _ _ _ h => gs_cons (gs_cons (gs_cons (gs_nil))) h)) rfl rfl rfl)
      (okB_cons (ok_for ok (okI_seq ok (ok_name ok ⟨by rfl, by kernel_rfl, by decide, by decide⟩)) (okG_name ok (by rfl) (by kernel_rfl) (by decide +kernel)) (okB_cons (ok_set ok (by rfl) (by kernel_rfl) (by decide) (ok_callN ok (by kernel_rfl) T.gl_rule_text T.kp_rule_text (by decide) (cb_rule_text T (by decide)) rfl rfl (by decide) (okL_cons (ok_makeN ok (by kernel_rfl) T.gl_Rule T.mk_Rule (by decide) (cb_Rule_init T (by decide)) rfl rfl (by decide) (okL_cons (ok_name ok ⟨by rfl, by kernel_rfl, by decide, by decide⟩) okL_nil (star_cons rfl))) okL_nil (star_cons rfl))) (swaps_no rfl))
      (okB_cons (ok_if (OkW.t (okW_or (okT_ne ok (ok_name ok ⟨by rfl, by kernel_rfl, by decide, by decide⟩) (ok_callN ok (by kernel_rfl) T.gl__law_term_text T.kp__law_term_text (by decide) (cb__law_term_text T (by decide)) rfl rfl (by decide) (okL_cons (ok_name ok ⟨by rfl, by kernel_rfl, by decide, by decide⟩) okL_nil (star_cons rfl)))) (okW_or1 (okT_ne ok (ok_repr ok ⟨by kernel_rfl, T.mg_repr, bo_repr, by decide, by decide⟩ (okL_cons (ok_meth0 ok (mt_term_ok0 T (by decide)) (ok_callN ok (by kernel_rfl) T.gl_read_rule T.kp_read_rule (by decide) (cb_read_rule T (by decide)) rfl rfl (by decide) (okL_cons (ok_name ok ⟨by rfl, by kernel_rfl, by decide, by decide⟩) okL_nil (star_cons rfl))) rfl rfl) okL_nil (star_cons rfl)) rfl) (ok_repr ok ⟨by kernel_rfl, T.mg_repr, bo_repr, by decide, by decide⟩ (okL_cons (ok_name ok ⟨by rfl, by kernel_rfl, by decide, by decide⟩) okL_nil (star_cons rfl)) rfl))))) (okB_one (ok_ret lit_bl)) okB_nil)
      (okB_cons (ok_if (okT_notIn ok rfl (ok_name ok ⟨by rfl, by kernel_rfl, by decide, by decide⟩) (ok_name ok ⟨by rfl, by kernel_rfl, by decide, by decide⟩)) (okB_one (ok_expr (ok_append ok ⟨by rfl, by kernel_rfl, by decide, by decide⟩ (ok_name ok ⟨by rfl, by kernel_rfl, by decide, by decide⟩) rfl rfl) rfl)) okB_nil)
      (okB_one (ok_setD ok ⟨by rfl, by kernel_rfl, by decide, by decide⟩ (ok_add ok (ok_getL ok (ok_name ok ⟨by rfl, by kernel_rfl, by decide, by decide⟩) (ok_name ok ⟨by rfl, by kernel_rfl, by decide, by decide⟩) (ok_list okL_nil) rfl rfl rfl rfl) (ok_list (okL_cons (ok_name ok ⟨by rfl, by kernel_rfl, by decide, by decide⟩) okL_nil (star_cons rfl)))) (ok_name ok ⟨by rfl, by kernel_rfl, by decide, by decide⟩) rfl))))) rfl)
      (okB_cons (ok_if (okT_ne ok (ok_lc (own := [("text", 6)]) ok (okI_seq ok (ok_name ok ⟨by rfl, by kernel_rfl, by decide, by decide⟩)) (by kernel_rfl) (fun _ ok' => ⟨(okG_name ok' (by rfl) (by kernel_rfl) (by decide +kernel)), (okTs_one (okT_ne ok' (ok_lc (own := [("term", 5)]) ok' (okI_seq ok' (ok_sub_ ok' (fun _ _ => rfl) (ok_name ok' ⟨by rfl, by kernel_rfl, by decide, by decide⟩) (ok_name ok' ⟨by rfl, by kernel_rfl, by decide, by decide⟩))) (by kernel_rfl) (fun _ ok'' => ⟨(okG_name ok'' (by rfl) (by kernel_rfl) (by decide +kernel)), (okTs_one (okT_ne ok'' (ok_name ok'' ⟨by rfl, by kernel_rfl, by decide, by decide⟩) (ok_sub_ ok'' (fun _ _ => rfl) (ok_sub_ ok'' (fun _ _ => rfl) (ok_name ok'' ⟨by rfl, by kernel_rfl, by decide, by decide⟩) (ok_name ok'' ⟨by rfl, by kernel_rfl, by decide, by decide⟩)) lit_int))), (ok_name ok'' ⟨by rfl, by kernel_rfl, by decide, by decide⟩)⟩) rfl) (ok_list okL_nil))), (ok_name ok' ⟨by rfl, by kernel_rfl, by decide, by decide⟩)⟩) rfl) (ok_list okL_nil)) (okB_one (ok_ret lit_bl)) okB_nil)
      (okB_cons (ok_par' ok (by rfl) (by rfl) (by decide) (by kernel_rfl) (by kernel_rfl) (by decide) (by decide) (okL_cons (ok_callN ok (by kernel_rfl) T.gl__law_one_of T.kp__law_one_of (by decide) (cb__law_one_of T (by decide)) rfl rfl (by decide) (okL_cons (ok_name ok ⟨by rfl, by kernel_rfl, by decide, by decide⟩) (okL_cons (ok_name ok ⟨by rfl, by kernel_rfl, by decide, by decide⟩) okL_nil (star_cons rfl)) (star_cons rfl))) (okL_cons (ok_callN ok (by kernel_rfl) T.gl__law_one_of T.kp__law_one_of (by decide) (cb__law_one_of T (by decide)) rfl rfl (by decide) (okL_cons (ok_name ok ⟨by rfl, by kernel_rfl, by decide, by decide⟩) (okL_cons (ok_name ok ⟨by rfl, by kernel_rfl, by decide, by decide⟩) okL_nil (star_cons rfl)) (star_cons rfl))) okL_nil (star_cons rfl)) (star_cons rfl)) rfl)
      (okB_one (ok_if (okT_ne ok (ok_eqO ok (eqT_ok T (by decide)) (ok_makeN ok (by kernel_rfl) T.gl_Rule T.mk_Rule (by decide) (cb_Rule_init T (by decide)) rfl rfl (by decide) (okL_cons (ok_name ok ⟨by rfl, by kernel_rfl, by decide, by decide⟩) okL_nil (star_cons rfl))) (ok_makeN ok (by kernel_rfl) T.gl_Rule T.mk_Rule (by decide) (cb_Rule_init T (by decide)) rfl rfl (by decide) (okL_cons (ok_name ok ⟨by rfl, by kernel_rfl, by decide, by decide⟩) okL_nil (star_cons rfl)))) (ok_eq ok (ok_callN ok (by kernel_rfl) T.gl_rule_text T.kp_rule_text (by decide) (cb_rule_text T (by decide)) rfl rfl (by decide) (okL_cons (ok_makeN ok (by kernel_rfl) T.gl_Rule T.mk_Rule (by decide) (cb_Rule_init T (by decide)) rfl rfl (by decide) (okL_cons (ok_name ok ⟨by rfl, by kernel_rfl, by decide, by decide⟩) okL_nil (star_cons rfl))) okL_nil (star_cons rfl))) (ok_callN ok (by kernel_rfl) T.gl_rule_text T.kp_rule_text (by decide) (cb_rule_text T (by decide)) rfl rfl (by decide) (okL_cons (ok_makeN ok (by kernel_rfl) T.gl_Rule T.mk_Rule (by decide) (cb_Rule_init T (by decide)) rfl rfl (by decide) (okL_cons (ok_name ok ⟨by rfl, by kernel_rfl, by decide, by decide⟩) okL_nil (star_cons rfl))) okL_nil (star_cons rfl))))) (okB_one (ok_ret lit_bl)) okB_nil)))))) rfl)
      (okB_one (ok_ret lit_bl))))
end
def md (w : World) (K : PySem.W.Frag) (mg : Str → Option Value) (base : Heap) : Md := ⟨PySem.Challenge.pw_whosepace_k94_whole_texts_of_all_small_t, w, K, mg, base, fun n => match n with
  | 0 => He.ga K "Rule"
  | 100 => He.fAd K ("rule_in", none)
  | _ => 0⟩
def cn : List (Nat × Str) := [(0, "Rule")]
theorem hC (w : World) (K : PySem.W.Frag) (mg : Str → Option Value) (base : Heap) : ∀ n x, (n, x) ∈ cn → (md w K mg base).C n = He.ga (md w K mg base).K x := by
  intro n x h
  simp only [cn, List.mem_cons, Prod.mk.injEq, List.not_mem_nil, or_false] at h
  rcases h with ⟨rfl, rfl⟩ <;> rfl
theorem tx_of {w : World} {K : PySem.W.Frag} {mg : Str → Option Value} {base : Heap} (X : K.In base) (G : base.Ns mainGlobals mg) (c : He.SaysD fa fnL K) (e : exB K = true) : Tx (md w K mg base) := by
  unfold exB at e
  simp only [Bool.and_eq_true] at e
  obtain ⟨⟨⟨⟨⟨h_Rule, h_bool⟩, h_int⟩, h_list⟩, h_str⟩, h_tuple⟩ := e
  exact {
    mg_abs := He.free_ok X G (c.fact 0 (f := .free "abs") rfl),
    mg_bool := He.free_ok X G (c.fact 1 (f := .free "bool") rfl),
    mg_dict := He.free_ok X G (c.fact 2 (f := .free "dict") rfl),
    mg_int := He.free_ok X G (c.fact 3 (f := .free "int") rfl),
    mg_isinstance := He.free_ok X G (c.fact 4 (f := .free "isinstance") rfl),
    mg_len := He.free_ok X G (c.fact 5 (f := .free "len") rfl),
    mg_list := He.free_ok X G (c.fact 6 (f := .free "list") rfl),
    mg_max := He.free_ok X G (c.fact 7 (f := .free "max") rfl),
    mg_min := He.free_ok X G (c.fact 8 (f := .free "min") rfl),
    mg_range := He.free_ok X G (c.fact 9 (f := .free "range") rfl),
    mg_repr := He.free_ok X G (c.fact 10 (f := .free "repr") rfl),
    mg_str := He.free_ok X G (c.fact 11 (f := .free "str") rfl),
    mg_sum := He.free_ok X G (c.fact 12 (f := .free "sum") rfl),
    mg_tuple := He.free_ok X G (c.fact 13 (f := .free "tuple") rfl),
    fn__law_purse := c.def_ 0 (d := d__law_purse) rfl,
    gl__law_purse := He.glo_ok X G (c.fact 14 (f := .glo "_law_purse") rfl),
    kp__law_purse := (c.def_ 0 (d := d__law_purse) rfl).choose_spec.kp,
    fn__law_purses := c.def_ 1 (d := d__law_purses) rfl,
    gl__law_purses := He.glo_ok X G (c.fact 15 (f := .glo "_law_purses") rfl),
    kp__law_purses := (c.def_ 1 (d := d__law_purses) rfl).choose_spec.kp,
    fn__law_mixed := c.def_ 2 (d := d__law_mixed) rfl,
    gl__law_mixed := He.glo_ok X G (c.fact 16 (f := .glo "_law_mixed") rfl),
    kp__law_mixed := (c.def_ 2 (d := d__law_mixed) rfl).choose_spec.kp,
    fn__law_draw := c.def_ 3 (d := d__law_draw) rfl,
    gl__law_draw := He.glo_ok X G (c.fact 17 (f := .glo "_law_draw") rfl),
    kp__law_draw := (c.def_ 3 (d := d__law_draw) rfl).choose_spec.kp,
    fn__law_shuffled := c.def_ 4 (d := d__law_shuffled) rfl,
    gl__law_shuffled := He.glo_ok X G (c.fact 18 (f := .glo "_law_shuffled") rfl),
    kp__law_shuffled := (c.def_ 4 (d := d__law_shuffled) rfl).choose_spec.kp,
    fn__law_word := c.def_ 5 (d := d__law_word) rfl,
    gl__law_word := He.glo_ok X G (c.fact 19 (f := .glo "_law_word") rfl),
    kp__law_word := (c.def_ 5 (d := d__law_word) rfl).choose_spec.kp,
    fn__law_one_of := c.def_ 6 (d := d__law_one_of) rfl,
    gl__law_one_of := He.glo_ok X G (c.fact 20 (f := .glo "_law_one_of") rfl),
    kp__law_one_of := (c.def_ 6 (d := d__law_one_of) rfl).choose_spec.kp,
    fn__law_wait := c.def_ 7 (d := d__law_wait) rfl,
    gl__law_wait := He.glo_ok X G (c.fact 21 (f := .glo "_law_wait") rfl),
    kp__law_wait := (c.def_ 7 (d := d__law_wait) rfl).choose_spec.kp,
    fn__law_over := c.def_ 8 (d := d__law_over) rfl,
    gl__law_over := He.glo_ok X G (c.fact 22 (f := .glo "_law_over") rfl),
    kp__law_over := (c.def_ 8 (d := d__law_over) rfl).choose_spec.kp,
    fn__law_terms := c.def_ 9 (d := d__law_terms) rfl,
    gl__law_terms := He.glo_ok X G (c.fact 23 (f := .glo "_law_terms") rfl),
    kp__law_terms := (c.def_ 9 (d := d__law_terms) rfl).choose_spec.kp,
    fn_check_rule := c.def_ 10 (d := d_check_rule) rfl,
    gl_check_rule := He.glo_ok X G (c.fact 24 (f := .glo "check_rule") rfl),
    kp_check_rule := (c.def_ 10 (d := d_check_rule) rfl).choose_spec.kp,
    fn_term_text := c.def_ 11 (d := d_term_text) rfl,
    gl_term_text := He.glo_ok X G (c.fact 25 (f := .glo "term_text") rfl),
    kp_term_text := (c.def_ 11 (d := d_term_text) rfl).choose_spec.kp,
    fn_is_part := c.def_ 12 (d := d_is_part) rfl,
    gl_is_part := He.glo_ok X G (c.fact 26 (f := .glo "is_part") rfl),
    kp_is_part := (c.def_ 12 (d := d_is_part) rfl).choose_spec.kp,
    fn_with_inside := c.def_ 13 (d := d_with_inside) rfl,
    gl_with_inside := He.glo_ok X G (c.fact 27 (f := .glo "with_inside") rfl),
    kp_with_inside := (c.def_ 13 (d := d_with_inside) rfl).choose_spec.kp,
    fn_copied := c.def_ 14 (d := d_copied) rfl,
    gl_copied := He.glo_ok X G (c.fact 28 (f := .glo "copied") rfl),
    kp_copied := (c.def_ 14 (d := d_copied) rfl).choose_spec.kp,
    fn_Rule_term := c.def_ 15 (d := d_Rule_term) rfl,
    fn_rule_text := c.def_ 16 (d := d_rule_text) rfl,
    gl_rule_text := He.glo_ok X G (c.fact 29 (f := .glo "rule_text") rfl),
    kp_rule_text := (c.def_ 16 (d := d_rule_text) rfl).choose_spec.kp,
    fn_is_name := c.def_ 17 (d := d_is_name) rfl,
    gl_is_name := He.glo_ok X G (c.fact 30 (f := .glo "is_name") rfl),
    kp_is_name := (c.def_ 17 (d := d_is_name) rfl).choose_spec.kp,
    fn_is_whole := c.def_ 18 (d := d_is_whole) rfl,
    gl_is_whole := He.glo_ok X G (c.fact 31 (f := .glo "is_whole") rfl),
    kp_is_whole := (c.def_ 18 (d := d_is_whole) rfl).choose_spec.kp,
    fn_are_terms := c.def_ 19 (d := d_are_terms) rfl,
    gl_are_terms := He.glo_ok X G (c.fact 32 (f := .glo "are_terms") rfl),
    kp_are_terms := (c.def_ 19 (d := d_are_terms) rfl).choose_spec.kp,
    fn_is_term := c.def_ 20 (d := d_is_term) rfl,
    gl_is_term := He.glo_ok X G (c.fact 33 (f := .glo "is_term") rfl),
    kp_is_term := (c.def_ 20 (d := d_is_term) rfl).choose_spec.kp,
    fn_Rule_init := c.def_ 21 (d := d_Rule_init) rfl,
    fn__law_number_text := c.def_ 22 (d := d__law_number_text) rfl,
    gl__law_number_text := He.glo_ok X G (c.fact 34 (f := .glo "_law_number_text") rfl),
    kp__law_number_text := (c.def_ 22 (d := d__law_number_text) rfl).choose_spec.kp,
    fn__law_term_text := c.def_ 23 (d := d__law_term_text) rfl,
    gl__law_term_text := He.glo_ok X G (c.fact 35 (f := .glo "_law_term_text") rfl),
    kp__law_term_text := (c.def_ 23 (d := d__law_term_text) rfl).choose_spec.kp,
    fn_terms_at := c.def_ 24 (d := d_terms_at) rfl,
    gl_terms_at := He.glo_ok X G (c.fact 36 (f := .glo "terms_at") rfl),
    kp_terms_at := (c.def_ 24 (d := d_terms_at) rfl).choose_spec.kp,
    fn_whole_of := c.def_ 25 (d := d_whole_of) rfl,
    gl_whole_of := He.glo_ok X G (c.fact 37 (f := .glo "whole_of") rfl),
    kp_whole_of := (c.def_ 25 (d := d_whole_of) rfl).choose_spec.kp,
    fn_named_at := c.def_ 26 (d := d_named_at) rfl,
    gl_named_at := He.glo_ok X G (c.fact 38 (f := .glo "named_at") rfl),
    kp_named_at := (c.def_ 26 (d := d_named_at) rfl).choose_spec.kp,
    fn_term_at := c.def_ 27 (d := d_term_at) rfl,
    gl_term_at := He.glo_ok X G (c.fact 39 (f := .glo "term_at") rfl),
    kp_term_at := (c.def_ 27 (d := d_term_at) rfl).choose_spec.kp,
    fn_rule_in := c.def_ 28 (d := d_rule_in) rfl,
    gl_rule_in := He.glo_ok X G (c.fact 40 (f := .glo "rule_in") rfl),
    kp_rule_in := (c.def_ 28 (d := d_rule_in) rfl).choose_spec.kp,
    fn_read_by := c.def_ 29 (d := d_read_by) rfl,
    gl_read_by := He.glo_ok X G (c.fact 41 (f := .glo "read_by") rfl),
    kp_read_by := (c.def_ 29 (d := d_read_by) rfl).choose_spec.kp,
    fn_read_rule := c.def_ 30 (d := d_read_rule) rfl,
    gl_read_rule := He.glo_ok X G (c.fact 42 (f := .glo "read_rule") rfl),
    kp_read_rule := (c.def_ 30 (d := d_read_rule) rfl).choose_spec.kp,
    fn_Rule_eq := c.def_ 31 (d := d_Rule_eq) rfl,
    fn_law := c.def_ 32 (d := d_law) rfl,
    gl_law := He.glo_ok X G (c.fact 43 (f := .glo "law") rfl),
    kp_law := (c.def_ 32 (d := d_law) rfl).choose_spec.kp,
    fv_rule_in := rfl,
    gv_rule_in := ⟨.ref (He.fAd K ("rule_in", none)), .ref (He.fAd K ("rule_in", none)), He.glo_ok X G (c.fact 40 (f := .glo "rule_in") rfl), rfl, fun _ => by simp only [RepD]; rfl⟩,
    gl_Rule := He.glo_ok X G (c.fact 44 (f := .glo "Rule") rfl),
    cls_0 := He.cls_ok (c.fact 45 (f := .cls "Rule") rfl),
    na_0_form := He.noat_ok (c.fact 46 (f := .noat "Rule" "form") rfl),
    mk_Rule := He.mkr_ok (c.fact 47 (f := .mkr "Rule") rfl),
    me_Rule___eq__ := He.meth_ok (c.fact 48 (f := .meth "Rule" "__eq__") rfl),
    me_Rule_term := He.meth_ok (c.fact 49 (f := .meth "Rule" "term") rfl),
    is_Rule := isOk_of (cn := cn) (hC w K mg base) h_Rule ct_Rule (by decide +kernel),
    is_bool := isOk_of (cn := cn) (hC w K mg base) h_bool ct_bool (by decide +kernel),
    is_int := isOk_of (cn := cn) (hC w K mg base) h_int ct_int (by decide +kernel),
    is_list := isOk_of (cn := cn) (hC w K mg base) h_list ct_list (by decide +kernel),
    is_str := isOk_of (cn := cn) (hC w K mg base) h_str ct_str (by decide +kernel),
    is_tuple := isOk_of (cn := cn) (hC w K mg base) h_tuple ct_tuple (by decide +kernel),
    gc_LETTERS := let ⟨t, e⟩ := He.str_ok X G (c.fact 50 (f := .str "LETTERS" "abcdefghijklmnopqrstuvwxyz") rfl); ⟨.str "abcdefghijklmnopqrstuvwxyz", .str "abcdefghijklmnopqrstuvwxyz" t, e, ⟨t, rfl⟩, fun _ => by simp only [c_LETTERS, RepD]⟩
  }
end L94
section
open PySem PySem.W PySem.Calls PyProof.Rows
theorem L94.holds_of (pure : ∀ ns : List Int, ns.length ≤ 63 → ∃ θ, L94.F_law [.sh (.lst (ns.map .int))] = some (.ok (.sh (.bl true)) θ)) : PySem.Challenge.rw_whosepace_k94_whole_texts_of_all_small_t.Holds := by
  w_on; o_law
  refine HandSHeadRun.head_any (r := OpenLaw.row PySem.Challenge.rw_whosepace_k94_whole_texts_of_all_small_t) (q := view (OpenLaw.row PySem.Challenge.rw_whosepace_k94_whole_texts_of_all_small_t).prog [40]) (H := L94.hk) (ob := L94.ob) (M := 4000) (loose := L94.names) (d := HandSHeadRun.topDef (OpenLaw.row PySem.Challenge.rw_whosepace_k94_whole_texts_of_all_small_t).prog 40) (kwd := []) L94.ob_eq
    (by kernel_rfl) (fun s => by kernel_rfl) L94.run (by kernel_rfl) (by kernel_rfl) (by kernel_rfl) (by rfl) (by first | assumption | decide +kernel) (by decide +kernel) ⟨rfl, rfl, rfl, rfl, rfl, by decide +kernel⟩ ?hw ?hc
  case hw => w_witness2
  case hc =>
    refine Wp.walkG (l := PySem.Challenge.rw_whosepace_k94_whole_texts_of_all_small_t) (n := 63) (k := 48) (x := "script") rfl (by decide) (by kernel_rfl) ⟨rfl, by decide, by decide⟩ ?F
    intro w mg fa h Y G hmg0
    obtain ⟨K, KX, c, e⟩ := Y
    have hmg : mg ("law" : PySem.Str) = some (.ref fa) := by
      have e : (HandSHeadRun.topDef (OpenLaw.row PySem.Challenge.rw_whosepace_k94_whole_texts_of_all_small_t).prog 40).name = ("law" : PySem.Str) := by kernel_rfl
      rw [← e]
      exact hmg0
    have T0 : L94.Tx (L94.md w K mg h) := L94.tx_of KX G c e
    obtain ⟨fd, F⟩ := T0.fn_law
    obtain rfl : fa = He.fAd K ("law", none) := by
      have := hmg.symm.trans T0.gl_law
      exact Value.ref.inj (Option.some.inj this)
    refine ⟨K, fd, Wp.spD (L94.md w K mg h) 1 L94.F_law, KX, fun s v => F.bindsA (ps := ["script"]) (fun _ _ _ _ _ _ us hl => match us, hl with | [_], _ => rfl) s [v] rfl, fun H a ns hl hS => Wp.law_sp (pure ns hl) hS, fun base KB GB => ?_⟩
    exact L94.g_law (L94.tx_of (w := w) KB GB c e) F
end
end
open PySem PySem.Spec PyProof.Rows L2 Wp
local macro_rules
  | `(tactic| exists [$hs,*], [$ss,*]) => do
    let hr ← hs.getElems.mapM fun h => `(Lean.Parser.Tactic.tacticSeq| exact $h)
    let H ← if hr.isEmpty then `(Lean.Parser.Tactic.tacticSeq| fail) else `(Lean.Parser.Tactic.tacticSeq| with_reducible (first $[| $hr]*))
    let ss := ss.getElems
    `(tactic| repeat first | $H | (refine Lf.mk ?_ <;> first | (simp only [List.map_id', shAll_mapF, ds_mapF, filter_ff, filter_tt, shDict, isOd, sharE, immD, tupD, Option.map_none, Fi.dv, List.drop_nil, List.drop_zero, List.drop_succ_cons, prepAll, prep1, Val.top, Val.d, ds_sh, Val.ds, esc1, escAll, escS, argAll, pass1, arg1, backAll, back1, shAll, shOf, shAll_map, isOl, shList, itemsT, itemsL, gNm, gTp, gsCons, gsNil, wipeE, outF, List.getElem?_cons_zero, List.getElem?_cons_succ, List.getElem?_nil, List.set_cons_zero, List.set_cons_succ, List.headD_cons, List.headD_nil, List.tail_cons, List.tail_nil, List.length_cons, List.length_nil, List.map_cons, List.map_nil, List.replicate_zero, List.replicate_succ, List.cons_append, List.nil_append, List.append_nil, Nat.reduceAdd, Nat.reduceSub, Nat.reduceLT, Nat.reduceLeDiff, Nat.zero_add, Nat.add_zero, Nat.sub_self, Nat.zero_lt_succ, Nat.add_lt_add_iff_right, if_true, if_false, ite_true, ite_false, reduceIte, Bool.false_eq_true, Option.map_some, Option.bind_some, decide_true, decide_false, $[$ss:term],*] <;> first | exact rfl | decide) | exact rfl | decide) | (refine Gp.mk ?_ <;> first | $H | (simp only [List.map_id', ds_mapF, filter_ff, filter_tt, List.map_nil, p1, p2, gAdd, Wp.gSub, gMul, gMod, gNeg, gCmp, cmpF, cLt, cLe, cGt, cGe, gEq, gNe, gIsN, gSub2, gIx, gLen, gMx2, gMn2, gInt, gBits, truthD, itemsX, itemsL, itemsT, shItems, shAll, shOf, shAll_map, Val.d, ds_sh, Val.ds, List.map_cons, List.map_nil, List.length_cons, List.length_nil, List.length_map, Option.map_some, Option.bind_some, Option.map_none, Option.bind_none, Bool.not_true, Bool.not_false, if_true, if_false, reduceIte, Bool.false_eq_true, numV, $[$ss:term],*] <;> exact rfl) | exact rfl) | (refine Sz.mk ?_ <;> first | with_reducible assumption | $H | (simp [sizeLine_eq]; done) | (simp [sizeLine_eq] <;> omega) | (simp [sizeLine_eq, small62] <;> omega)) | with_reducible (first | apply e_var | apply e_lit | apply e_f1 | apply e_f2 | apply e_fn | apply e_app1 | apply e_app2 | apply e_nil | apply e_cons | apply e_bl | apply e_tru | apply e_notT | apply e_andT | apply e_orT | apply e_andV | apply e_orV | apply e_notV | apply e_ite | apply e_disp | apply e_pt0 | apply e_pt1 | apply e_slice | apply e_lc | apply lc_nil | apply lc_cons | apply e_yes | apply e_seqI | apply e_enum | apply e_rng1 | apply e_rng2 | apply e_callD | apply e_call | apply e_make | apply e_methD | apply e_prop | apply e_attr | apply e_neO | apply e_eqO | apply e_par3 | apply e_seq | apply sq_n | apply sq_r | apply sq_b | apply sq_c | apply e_set | apply e_par | apply e_asg | apply e_expr | apply e_app | apply e_ret | apply e_retN | apply e_nxt | apply e_flw | apply e_if | apply e_for | apply lp_nil | apply lp_cons | apply lp_n | apply lp_c | apply lp_b | apply lp_r | apply e_setI | apply e_setF | apply e_retM | apply e_pure | apply e_pureT | apply e_eqN | apply e_eqTu | apply e_appT | apply e_sem | apply ok_ok | apply e_lcK | apply e_keys | apply e_strI | apply e_tadd | apply e_dict0 | apply e_dictL | apply fl_nil | apply fl_cons | apply e_insert | apply e_setD | apply e_appP | apply e_appQ | apply e_chain | apply e_lockSn | apply e_lockE | apply e_dictS | apply e_view | apply e_clr | apply e_clrA | apply e_get | apply e_items | apply e_sliceS | apply e_starts | apply e_callV | apply e_try0 | apply e_getL) | ((with_reducible refine c_t ?_ ?_); decide) | ((with_reducible refine c_f ?_ ?_); decide) | ((with_reducible refine c_t ?_ ?_); (first | with_reducible rfl | with_reducible assumption | (simp [$[$ss:term],*] <;> omega) | omega)) | ((with_reducible refine c_f ?_ ?_); (first | with_reducible rfl | with_reducible assumption | (simp [$[$ss:term],*] <;> omega) | omega)) | with_reducible (apply lc_put) | with_reducible (apply lc_skip))
  | `(tactic| exists [$hs,*], [$ss,*], 0) => do
    let hr ← hs.getElems.mapM fun h => `(Lean.Parser.Tactic.tacticSeq| exact $h)
    let H ← if hr.isEmpty then `(Lean.Parser.Tactic.tacticSeq| fail) else `(Lean.Parser.Tactic.tacticSeq| with_reducible (first $[| $hr]*))
    let ss := ss.getElems
    `(tactic| repeat first | $H | (refine Lf.mk ?_ <;> first | (simp only [List.map_id', shAll_mapF, ds_mapF, filter_ff, filter_tt, shDict, isOd, sharE, immD, tupD, Option.map_none, Fi.dv, List.drop_nil, List.drop_zero, List.drop_succ_cons, prepAll, prep1, Val.top, Val.d, ds_sh, Val.ds, esc1, escAll, escS, argAll, pass1, arg1, backAll, back1, shAll, shOf, shAll_map, isOl, shList, itemsT, itemsL, gNm, gTp, gsCons, gsNil, wipeE, outF, List.getElem?_cons_zero, List.getElem?_cons_succ, List.getElem?_nil, List.set_cons_zero, List.set_cons_succ, List.headD_cons, List.headD_nil, List.tail_cons, List.tail_nil, List.length_cons, List.length_nil, List.map_cons, List.map_nil, List.replicate_zero, List.replicate_succ, List.cons_append, List.nil_append, List.append_nil, Nat.reduceAdd, Nat.reduceSub, Nat.reduceLT, Nat.reduceLeDiff, Nat.zero_add, Nat.add_zero, Nat.sub_self, Nat.zero_lt_succ, Nat.add_lt_add_iff_right, if_true, if_false, ite_true, ite_false, reduceIte, Bool.false_eq_true, Option.map_some, Option.bind_some, decide_true, decide_false, $[$ss:term],*] <;> first | exact rfl | decide) | exact rfl | decide) | (refine Gp.mk ?_ <;> first | $H | (simp only [List.map_id', ds_mapF, filter_ff, filter_tt, List.map_nil, p1, p2, gAdd, Wp.gSub, gMul, gMod, gNeg, gCmp, cmpF, cLt, cLe, cGt, cGe, gEq, gNe, gIsN, gSub2, gIx, gLen, gMx2, gMn2, gInt, gBits, truthD, itemsX, itemsL, itemsT, shItems, shAll, shOf, shAll_map, Val.d, ds_sh, Val.ds, List.map_cons, List.map_nil, List.length_cons, List.length_nil, List.length_map, Option.map_some, Option.bind_some, Option.map_none, Option.bind_none, Bool.not_true, Bool.not_false, if_true, if_false, reduceIte, Bool.false_eq_true, numV, $[$ss:term],*] <;> exact rfl) | exact rfl) | (refine Sz.mk ?_ <;> first | with_reducible assumption | $H | (simp [sizeLine_eq]; done) | (simp [sizeLine_eq] <;> omega) | (simp [sizeLine_eq, small62] <;> omega)) | with_reducible (first | exact ys_shm | exact ys_rng | exact ys_keysm | exact ys_keys | exact ys_sgn | exact ys_sh | exact ys_map) | (intro _x _hx; with_reducible apply LcI.mk') | (intro _x _hx; with_reducible apply DcI.mk') | (intro _hb; first | exact LcB.no _hb (by decide) | with_reducible apply LcB.mk') | with_reducible (first | apply e_lcY | apply e_lcP | apply e_dcY | apply e_var | apply e_lit | apply e_f1 | apply e_f2 | apply e_fn | apply e_app1 | apply e_app2 | apply e_nil | apply e_cons | apply e_bl | apply e_tru | apply e_notT | apply e_andT | apply e_orT | apply e_andV | apply e_orV | apply e_notV | apply e_ite | apply e_disp | apply e_pt0 | apply e_pt1 | apply e_slice | apply e_yes | apply e_seqI | apply e_enum | apply e_rng1 | apply e_rng2 | apply e_callD | apply e_call | apply e_make | apply e_methD | apply e_prop | apply e_attr | apply e_neO | apply e_eqO | apply e_par3 | apply e_seq | apply sq_n | apply sq_r | apply sq_b | apply sq_c | apply e_set | apply e_par | apply e_asg | apply e_expr | apply e_app | apply e_ret | apply e_retN | apply e_nxt | apply e_flw | apply e_if | apply e_for | apply lp_nil | apply lp_cons | apply lp_n | apply lp_c | apply lp_b | apply lp_r | apply e_setI | apply e_setF | apply e_retM | apply e_pure | apply e_pureT | apply e_eqN | apply e_eqTu | apply e_appT | apply e_sem | apply ok_ok | apply e_lcK | apply e_keys | apply e_strI | apply e_tadd | apply e_dict0 | apply e_dictL | apply fl_nil | apply fl_cons | apply e_insert | apply e_setD | apply e_appP | apply e_appQ | apply e_chain | apply e_lockSn | apply e_lockE | apply e_dictS | apply e_view | apply e_clr | apply e_clrA | apply e_get | apply e_items | apply e_sliceS | apply e_starts | apply e_callV | apply e_try0 | apply e_getL) | ((with_reducible refine c_t ?_ ?_); decide) | ((with_reducible refine c_f ?_ ?_); decide) | ((with_reducible refine c_t ?_ ?_); (first | with_reducible rfl | with_reducible assumption | (simp [$[$ss:term],*] <;> omega) | omega)) | ((with_reducible refine c_f ?_ ?_); (first | with_reducible rfl | with_reducible assumption | (simp [$[$ss:term],*] <;> omega) | omega)) | with_reducible (apply lc_put) | with_reducible (apply lc_skip) | exact rfl)
section
set_option Elab.async false
set_option linter.all false
set_option maxRecDepth 100000
set_option maxHeartbeats 1000000
namespace L94
open PySem PySem.Spec PyProof.Rows L2 Wp
theorem F_mixed (s t a : Int) (ht : 0 ≤ t) (ht2 : t < 2 ^ 60) (ha : 0 ≤ a) (ha2 : a < 2^60) : F__law_mixed [.sh (.int s), .sh (.int t), .sh (.int a)] = some (.ok (.sh (.int (mixed s t a))) [some (.sh (.int s)), some (.sh (.int t)), some (.sh (.int a))]) := by
  have m1 : mulOk s 69069 = true := mulOk_r (by decide)
  have m2 : mulOk 104729 t = true := mulOk_r (by omega)
  have m3 : mulOk (104729 * t) t = true := mulOk_r (by omega)
  have m4 : mulOk 7919 a = true := mulOk_r (by omega)
  have b1 : 0 ≤ mx1 s t a ∧ mx1 s t a < 2147483647 := fmod_bd (by decide)
  have m5 : mulOk (mx1 s t a) (mx1 s t a) = true := mulOk_r (by omega)
  have m6 : mulOk (mx2 s t a) 48271 = true := mulOk_r (by decide)
  unfold mx2 at m6
  unfold mx1 at m5 m6
  unfold mixed mx2 mx1
  simp (config := { decide := true }) only [semF, fRetM, fSeq, fSet, fIf, fNext, fRet, fRetN, fExpr, fPar, fAsg, f1, f2, fn, fVar, fLit, fCons, fNil, fIte, fBl, blOf, fTru, truR, fAndT, fOrT, fNotT, fAndV, fOrV, fNotV, fDisp, fSlice, fPart, fSetI, isOl, shList, escS, bindR_ok, bindR_some, bindR_exc, okR, appR, prepAll, prep1, escAll, esc1, Val.top, Val.d, Val.ds, shAll, shOf, shAll_map, p1, p2, gAdd, Wp.gSub, gMul, gMod, gNeg, gCmp, cmpF, cLt, cLe, cGt, cGe, gEq, gNe, gIsN, gSub2, gIx, gLen, gMx2, gMn2, gInt, gBits, truthD, dataR, fRng1, fRng2, fSeqI, fFor, gNm, gTp, gsCons, gsNil, itemsT, fCallN, callR, argAll, pass1, arg1, backAll, back1, Fi.dv, theta, List.map_cons, List.map_nil, List.length_cons, List.length_nil, List.cons_append, List.nil_append, List.append_nil, List.replicate_zero, List.replicate_succ, List.getElem?_cons_zero, List.getElem?_cons_succ, List.getElem?_nil, List.set_cons_zero, List.set_cons_succ, List.headD_cons, List.headD_nil, List.tail_cons, List.tail_nil, List.drop_nil, List.drop_zero, Option.map_some, Option.map_none, Option.bind_some, Option.bind_none, if_true, if_false, ite_true, ite_false, reduceIte, Bool.false_eq_true, Bool.true_and, Bool.and_true, Bool.false_and, Bool.and_false, Bool.or_true, Bool.true_or, Bool.or_false, Bool.false_or, Bool.not_true, Bool.not_false, decide_true, decide_false, List.contains_cons, List.elem_cons, List.elem_nil, Nat.reduceSub, Nat.reduceAdd, Nat.reduceLT, Nat.reduceLeDiff, Nat.reduceEqDiff, Nat.zero_add, Nat.add_zero, Nat.sub_self, Nat.le_refl, F__law_mixed, m1, m2, m3, m4, m5, m6]
theorem draw_loop (b e m : Int) (he : 0 ≤ e) (he2 : e < 2 ^ 60) : ∀ (ys : List Val) (c fd : Int) (l : Option Val), 0 ≤ c → c + ys.length < 2 ^ 60 → ∃ fd' l', loopF (gNm 4) b__law_draw_1 ys [some (pu 0 b c e), some (.sh (.int m)), none, some (.sh (.int fd)), l] =
      some (.ok .next [some (pu 0 b (c + ys.length) e), some (.sh (.int m)), none, some (.sh (.int fd')), l'])
  | [], c, fd, l, _, _ => ⟨fd, l, by simp [loopF, okR]⟩
  | y :: ys, c, fd, l, hc, hc2 => by
    have hl : (ys.length : Int) ≥ 0 := by omega
    have hc2 : c + ((ys.length : Int) + 1) < 2 ^ 60 := by simpa using hc2
    obtain ⟨fd', l', ih⟩ := draw_loop b e m he he2 ys (c + 1) (fd * 2147483587 + mixed b (c + 1) e) (some y) (by omega) (by omega)
    refine ⟨fd', l', ?_⟩
    have m1 : mulOk fd 2147483587 = true := mulOk_r (by decide)
    have hm := F_mixed b (c + 1) e (by omega) (by omega) he he2
    simp only [loopF]
    unfold pu at ih ⊢
    unfold b__law_draw_1 at ih ⊢
    simp (config := { decide := true }) only [semF, fRetM, fSeq, fSet, fIf, fNext, fRet, fRetN, fExpr, fPar, fAsg, f1, f2, fn, fVar, fLit, fCons, fNil, fIte, fBl, blOf, fTru, truR, fAndT, fOrT, fNotT, fAndV, fOrV, fNotV, fDisp, fSlice, fPart, fSetI, isOl, shList, escS, bindR_ok, bindR_some, bindR_exc, okR, appR, prepAll, prep1, escAll, esc1, Val.top, Val.d, Val.ds, shAll, shOf, shAll_map, p1, p2, gAdd, Wp.gSub, gMul, gMod, gNeg, gCmp, cmpF, cLt, cLe, cGt, cGe, gEq, gNe, gIsN, gSub2, gIx, gLen, gMx2, gMn2, gInt, gBits, truthD, dataR, fRng1, fRng2, fSeqI, fFor, gNm, gTp, gsCons, gsNil, itemsT, fCallN, callR, argAll, pass1, arg1, backAll, back1, Fi.dv, theta, List.map_cons, List.map_nil, List.length_cons, List.length_nil, List.cons_append, List.nil_append, List.append_nil, List.replicate_zero, List.replicate_succ, List.getElem?_cons_zero, List.getElem?_cons_succ, List.getElem?_nil, List.set_cons_zero, List.set_cons_succ, List.headD_cons, List.headD_nil, List.tail_cons, List.tail_nil, List.drop_nil, List.drop_zero, Option.map_some, Option.map_none, Option.bind_some, Option.bind_none, if_true, if_false, ite_true, ite_false, reduceIte, Bool.false_eq_true, Bool.true_and, Bool.and_true, Bool.false_and, Bool.and_false, Bool.or_true, Bool.true_or, Bool.or_false, Bool.false_or, Bool.not_true, Bool.not_false, decide_true, decide_false, List.contains_cons, List.elem_cons, List.elem_nil, Nat.reduceSub, Nat.reduceAdd, Nat.reduceLT, Nat.reduceLeDiff, Nat.reduceEqDiff, Nat.zero_add, Nat.add_zero, Nat.sub_self, Nat.le_refl, i__law_mixed, hm, m1, atI_0, atI_1, atI_2, atI_3, ix4_0, ix4_2]
    simp only [Wp.bindL]
    have e1 : c + 1 + (ys.length : Int) = c + ((ys.length + 1 : Nat) : Int) := by rw [Int.natCast_add]; omega
    rw [e1] at ih
    exact ih
theorem F_draw0 (a b c e m : Int) (ha : 0 ≤ a) (hm : 1 ≤ m) (hm2 : m < 2 ^ 400) (hc : 0 ≤ c) (hc2 : c < 2 ^ 59) (he : 0 ≤ e) (he2 : e < 2 ^ 60) :
    ∃ r a' c', 0 ≤ r ∧ r < m ∧ 0 ≤ a' ∧ c ≤ c' ∧ c' ≤ c + 16 ∧ F__law_draw [pu a b c e, .sh (.int m)] = some (.ok (.sh (.int r)) [some (pu a' b c' e), some (.sh (.int m))]) := by
  have hz : ¬ m = 0 := by omega
  have hm3 : m.natAbs < 2 ^ 400 := by omega
  have hlog : m.natAbs.log2 < 9000 := Nat.lt_of_lt_of_le (log2_small hm3 (by decide)) (by decide)
  by_cases h : 0 < a
  · obtain ⟨r1, r2⟩ := fmod_bd (i := a) (j := m) (by omega)
    refine ⟨a.fmod m, a.fdiv m, c, r1, r2, by rw [Int.fdiv_eq_ediv_of_nonneg _ (by omega)]; exact Int.ediv_nonneg ha (by omega), by omega, by omega, ?_⟩
    have hd : decide (0 < a) = true := decide_eq_true h
    unfold pu
    simp (config := { decide := true }) only [semF, fRetM, fSeq, fSet, fIf, fNext, fRet, fRetN, fExpr, fPar, fAsg, f1, f2, fn, fVar, fLit, fCons, fNil, fIte, fBl, blOf, fTru, truR, fAndT, fOrT, fNotT, fAndV, fOrV, fNotV, fDisp, fSlice, fPart, fSetI, isOl, shList, escS, bindR_ok, bindR_some, bindR_exc, okR, appR, prepAll, prep1, escAll, esc1, Val.top, Val.d, Val.ds, shAll, shOf, shAll_map, p1, p2, gAdd, Wp.gSub, gMul, gMod, gNeg, gCmp, cmpF, cLt, cLe, cGt, cGe, gEq, gNe, gIsN, gSub2, gIx, gLen, gMx2, gMn2, gInt, gBits, truthD, dataR, fRng1, fRng2, fSeqI, fFor, gNm, gTp, gsCons, gsNil, itemsT, fCallN, callR, argAll, pass1, arg1, backAll, back1, Fi.dv, theta, List.map_cons, List.map_nil, List.length_cons, List.length_nil, List.cons_append, List.nil_append, List.append_nil, List.replicate_zero, List.replicate_succ, List.getElem?_cons_zero, List.getElem?_cons_succ, List.getElem?_nil, List.set_cons_zero, List.set_cons_succ, List.headD_cons, List.headD_nil, List.tail_cons, List.tail_nil, List.drop_nil, List.drop_zero, Option.map_some, Option.map_none, Option.bind_some, Option.bind_none, if_true, if_false, ite_true, ite_false, reduceIte, Bool.false_eq_true, Bool.true_and, Bool.and_true, Bool.false_and, Bool.and_false, Bool.or_true, Bool.true_or, Bool.or_false, Bool.false_or, Bool.not_true, Bool.not_false, decide_true, decide_false, List.contains_cons, List.elem_cons, List.elem_nil, Nat.reduceSub, Nat.reduceAdd, Nat.reduceLT, Nat.reduceLeDiff, Nat.reduceEqDiff, Nat.zero_add, Nat.add_zero, Nat.sub_self, Nat.le_refl, F__law_draw, atI_0, atI_1, atI_2, atI_3, ix4_0, ix4_2, hd, hz, gDiv, hlog]
  · obtain rfl : a = 0 := by omega
    have hb : Builtin.Int.intBits m ≤ 400 := bits_le hm3
    have hd : decide ((0 : Int) < 0) = false := rfl
    generalize hq : ((Builtin.Int.intBits m : Nat) : Int).fdiv 28 = q
    have hq0 : 0 ≤ q ∧ q ≤ 14 := by
      rw [Int.fdiv_eq_ediv_of_nonneg _ (by decide)] at hq
      omega
    have hs : small62 (1 + q) = true := by unfold small62; exact decide_eq_true (by omega)
    have h28 : ¬ (28 : Int) = 0 := by decide
    have hl28 : (28 : Int).natAbs.log2 < 9000 := Nat.lt_of_lt_of_le (log2_small (j := 28) (n := 10) (by decide) (by decide)) (by decide)
    obtain ⟨fd, l, hf⟩ := draw_loop b e m he he2 (rngV 0 (1 + q).toNat) c 0 none hc (by rw [rngV_len]; omega)
    obtain ⟨r1, r2⟩ := fmod_bd (i := fd) (j := m) (by omega)
    refine ⟨fd.fmod m, 0, c + (rngV 0 (1 + q).toNat).length, r1, r2, by omega, by omega, by rw [rngV_len]; omega, ?_⟩
    unfold pu at hf ⊢
    unfold b__law_draw_1 at hf
    simp (config := { decide := true }) only [semF, fRetM, fSeq, fSet, fIf, fNext, fRet, fRetN, fExpr, fPar, fAsg, f1, f2, fn, fVar, fLit, fCons, fNil, fIte, fBl, blOf, fTru, truR, fAndT, fOrT, fNotT, fAndV, fOrV, fNotV, fDisp, fSlice, fPart, fSetI, isOl, shList, escS, bindR_ok, bindR_some, bindR_exc, okR, appR, prepAll, prep1, escAll, esc1, Val.top, Val.d, Val.ds, shAll, shOf, shAll_map, p1, p2, gAdd, Wp.gSub, gMul, gMod, gNeg, gCmp, cmpF, cLt, cLe, cGt, cGe, gEq, gNe, gIsN, gSub2, gIx, gLen, gMx2, gMn2, gInt, gBits, truthD, dataR, fRng1, fRng2, fSeqI, fFor, gNm, gTp, gsCons, gsNil, itemsT, fCallN, callR, argAll, pass1, arg1, backAll, back1, Fi.dv, theta, List.map_cons, List.map_nil, List.length_cons, List.length_nil, List.cons_append, List.nil_append, List.append_nil, List.replicate_zero, List.replicate_succ, List.getElem?_cons_zero, List.getElem?_cons_succ, List.getElem?_nil, List.set_cons_zero, List.set_cons_succ, List.headD_cons, List.headD_nil, List.tail_cons, List.tail_nil, List.drop_nil, List.drop_zero, Option.map_some, Option.map_none, Option.bind_some, Option.bind_none, if_true, if_false, ite_true, ite_false, reduceIte, Bool.false_eq_true, Bool.true_and, Bool.and_true, Bool.false_and, Bool.and_false, Bool.or_true, Bool.true_or, Bool.or_false, Bool.false_or, Bool.not_true, Bool.not_false, decide_true, decide_false, List.contains_cons, List.elem_cons, List.elem_nil, Nat.reduceSub, Nat.reduceAdd, Nat.reduceLT, Nat.reduceLeDiff, Nat.reduceEqDiff, Nat.zero_add, Nat.add_zero, Nat.sub_self, Nat.le_refl, F__law_draw, b__law_draw_1, atI_0, atI_1, atI_2, atI_3, ix4_0, ix4_2, hd, hz, gDiv, hlog, hq, hs, h28, hl28, hf]
theorem F_draw {k : Nat} {p : List Val} (hp : Pu k p) {m : Int} (hm : 1 ≤ m := by decide) (hm2 : m < 2 ^ 400 := by decide) (hk : k < 2 ^ 50 := by omega) :
    ∃ r p', Pu (k + 1) p' ∧ 0 ≤ r ∧ r < m ∧ F__law_draw [.ol p, .sh (.int m)] = some (.ok (.sh (.int r)) [some (.ol p'), some (.sh (.int m))]) := by
  obtain ⟨a, b, c, e, h0, h1, h2, h3, h4, h5⟩ := hp
  obtain ⟨r, a', c', q1, q2, q3, q4, q5, hf⟩ := F_draw0 a b c e m h1 hm hm2 h2 (by omega) h4 (by omega)
  rw [← h0] at hf
  exact ⟨r, _, ⟨a', b, c', e, rfl, q3, by omega, by omega, h4, h5⟩, q1, q2, hf⟩
/-- one of some things -/
theorem F_one_of {k : Nat} {p : List Val} (hp : Pu k p) {ds : List D} (hn : ds ≠ []) (hl : ds.length < 2 ^ 30) (hk : k < 2 ^ 50) :
    ∃ d p', Pu (k + 1) p' ∧ d ∈ ds ∧ F__law_one_of [.ol p, .sh (.lst ds)] = some (.ok (.sh d) [some (.ol p'), some (.sh (.lst ds))]) := by
  have h1 : 1 ≤ (ds.length : Int) := by
    have := List.length_pos_iff.mpr hn
    omega
  obtain ⟨i, p', q1, q2, q3, hf⟩ := F_draw hp (m := ds.length) h1 (by omega) hk
  obtain ⟨d, e1, e2, _⟩ := atI_get q2 q3
  refine ⟨d, p', q1, e2, ?_⟩
  have g1 : gSub2 (.lst ds) (.int i) = some (.sh d) := by
    show (atI ds i).map Val.sh = _
    rw [e1]
    rfl
  unfold F__law_one_of
  exists [hf, g1], []
end L94
end
section
set_option Elab.async false
set_option linter.all false
set_option maxRecDepth 100000
set_option maxHeartbeats 1000000
namespace L94
open PySem PySem.Spec PyProof.Rows L2 Wp
theorem abc_at {i : Int} (h0 : 0 ≤ i) (h1 : i < 26) : ∃ c, c ∈ abc.cps.toList ∧ gSub2 (.str "abcdefghijklmnopqrstuvwxyz") (.int i) = some (.sh (.str ⟨#[c]⟩)) := by
  have hl : (abc.cps.toList.length : Int) = 26 := by decide +kernel
  obtain ⟨c, e1, e2, _⟩ := atI_get (ns := abc.cps.toList) h0 (by omega)
  refine ⟨c, e2, ?_⟩
  have hs : abc.length ≤ sizeLine := by
    have : abc.length = 26 := by decide +kernel
    rw [this, sizeLine_eq]
    decide
  show (if abc.length ≤ sizeLine then (atI abc.cps.toList i).map fun c => Val.sh (.str ⟨#[c]⟩) else none) = _
  rw [if_pos hs, e1]
  rfl
theorem F_word {k : Nat} {p : List Val} (hp : Pu k p) (hk : k < 2 ^ 49) : ∃ x p', Pu (k + 9) p' ∧ okName x = true ∧ F__law_word [.ol p] = some (.ok (.sh (.str x)) [some (.ol p')]) := by
  obtain ⟨n, p1, q1, n0, n8, hf⟩ := F_draw hp (m := 8)
  obtain ⟨η', hl, p2, x, l, q2, rfl, lx, ax⟩ := loop_cnt (gt := gNm 2) (body := b__law_word_1) (ys := rngV 0 (1 + n).toNat) (η := [some (.ol p1), some (.sh (.str "")), none])
    (fun i η => ∃ (p : List Val) (x : Str) (l : Option Val), Pu (k + 1 + i) p ∧ η = [some (.ol p), some (.sh (.str x)), l] ∧ x.length = i ∧ ∀ c ∈ x.cps.toList, c ∈ abc.cps.toList)
    ⟨p1, "", none, q1, rfl, by decide, by decide⟩ (by
      rintro i y η hy ⟨p, x, l, q, rfl, lx, ax⟩
      have hi : i < 2 ^ 20 := by
        have := (List.getElem?_eq_some_iff.mp hy).1
        rw [rngV_len] at this
        omega
      obtain ⟨r, p2, q2, r0, r1, hf⟩ := F_draw q (m := 26)
      obtain ⟨c, c1, hg⟩ := abc_at r0 r1
      have h2 : gAdd (.str x) (.str ⟨#[c]⟩) = some (.sh (.str (x ++ ⟨#[c]⟩))) := by
        show (if x.length + 1 ≤ sizeLine then _ else _) = _
        rw [if_pos (by rw [sizeLine_eq]; omega)]
      refine ⟨[some (.ol p), some (.sh (.str x)), some y], [some (.ol p2), some (.sh (.str (x ++ ⟨#[c]⟩))), some y], rfl, ?_, p2, _, _, q2, rfl, ?_, fun d hd => ?_⟩
      · exists [hf, hg, h2], []
      · show (x.cps ++ #[c]).size = _
        rw [Array.size_append]
        show x.length + 1 = _
        omega
      · have : d ∈ (x.cps ++ #[c]).toList := hd
        rw [Array.toList_append, List.mem_append] at this
        rcases this with z | z
        · exact ax d z
        · obtain rfl : d = c := by simpa using z
          exact c1)
  rw [rngV_len] at q2 lx
  have hs : small62 (1 + n) = true := small62_of (by omega) (by omega)
  refine ⟨x, p2, q2.mono (by omega), ?_, ?_⟩
  · simp only [okName, Bool.and_eq_true, decide_eq_true_eq, List.all_eq_true]
    exact ⟨⟨by omega, by omega⟩, ax⟩
  · unfold F__law_word
    exists [hf, hl], []
theorem ins_perm {α : Type} {d : α} {l : List α} (j : Nat) : (l.take j ++ [d] ++ l.drop j).Perm (d :: l) := by
  rw [List.append_assoc]
  have := (List.perm_middle (a := d) (l₁ := l.take j) (l₂ := l.drop j))
  rwa [List.take_append_drop] at this
theorem F_shuffled {k : Nat} {p : List Val} (hp : Pu k p) {ds : List D} (hl : ds.length < 2 ^ 20) (hk : k < 2 ^ 49) :
    ∃ es p', Pu (k + ds.length) p' ∧ es.Perm ds ∧ F__law_shuffled [.ol p, .sh (.lst ds)] = some (.ok (.sh (.lst es)) [some (.ol p'), some (.sh (.lst ds))]) := by
  obtain ⟨η', hf, p2, es, l, q2, rfl, pe⟩ := loop_cnt (gt := gNm 3) (body := b__law_shuffled_1) (ys := ds.map Val.sh) (η := [some (.ol p), some (.sh (.lst ds)), some (.ol []), none])
    (fun i η => ∃ (p : List Val) (es : List D) (l : Option Val), Pu (k + i) p ∧ η = [some (.ol p), some (.sh (.lst ds)), some (.ol (es.map .sh)), l] ∧ es.Perm (ds.take i))
    ⟨p, [], none, hp, rfl, by simp⟩ (by
      rintro i y η hy ⟨p, es, l, q, rfl, pe⟩
      rw [List.getElem?_map, Option.map_eq_some_iff] at hy
      obtain ⟨d, hd, rfl⟩ := hy
      have hi : i < ds.length := (List.getElem?_eq_some_iff.mp hd).1
      have le : es.length = i := by
        rw [pe.length_eq, List.length_take]
        omega
      obtain ⟨r, p2, q2, r0, r1, hf⟩ := F_draw q (m := (es.length : Int) + 1) (by omega) (by omega)
      refine ⟨[some (.ol p), some (.sh (.lst ds)), some (.ol (es.map .sh)), some (.sh d)], [some (.ol p2), some (.sh (.lst ds)), some (.ol ((es.take r.toNat ++ [d] ++ es.drop r.toNat).map .sh)), some (.sh d)], rfl, ?_, p2, _, _, q2, rfl, ?_⟩
      · have hz : es.length < sizeLine ∧ 0 ≤ r ∧ r < 2 ^ 63 := ⟨by rw [sizeLine_eq]; omega, r0, by omega⟩
        have hln : gLen (.lst es) = some (.sh (.int es.length)) := rfl
        exists [hf, hln, hz], []
      · refine (ins_perm _).trans ((pe.cons d).trans ?_)
        have : ds.take (i + 1) = ds.take i ++ [d] := by
          rw [List.take_succ, hd]
          rfl
        rw [this]
        exact (List.perm_append_comm (l₁ := [d]))
      )
  rw [List.length_map] at q2 pe
  refine ⟨es, p2, q2, by rwa [List.take_length] at pe, ?_⟩
  unfold F__law_shuffled
  exists [hf], []

end L94
end
section
set_option Elab.async false
set_option linter.all false
set_option maxRecDepth 100000
set_option maxHeartbeats 1000000
namespace L94
open PySem PySem.Spec PyProof.Rows L2 Wp
theorem pow_of {i j r : Int} (h : 0 ≤ j ∧ (Builtin.Int.intBits i : Int) * j ≤ 2 ^ 27) (e : i ^ j.toNat = r) : gPow (.int i) (.int j) = some (.sh (.int r)) := by
  unfold gPow
  simp only
  rw [if_pos h, e]
theorem pow_8 : gPow (.int 10) (.int 8) = some (.sh (.int 100000000)) := pow_of (by decide +kernel) (by decide +kernel)
theorem pow_9 : gPow (.int 10) (.int 9) = some (.sh (.int 1000000000)) := pow_of (by decide +kernel) (by decide +kernel)
theorem pow_11 : gPow (.int 10) (.int 11) = some (.sh (.int 100000000000)) := pow_of (by decide +kernel) (by decide +kernel)
theorem F_wait {k : Nat} {p : List Val} (hp : Pu k p) (hk : k < 2 ^ 49) : ∃ w p', Pu (k + 5) p' ∧ (-200000000000 ≤ w ∧ w ≤ 200000000000) ∧ F__law_wait [.ol p] = some (.ok (.sh (.int w)) [some (.ol p')]) := by
  obtain ⟨r1, p1, q1, a1, b1, h1⟩ := F_draw hp (m := 19)
  obtain ⟨r2, p2, q2, a2, b2, h2⟩ := F_draw q1 (m := 1000000000)
  obtain ⟨r3, p3, q3, a3, b3, h3⟩ := F_draw q2 (m := 9)
  obtain ⟨r4, p4, q4, a4, b4, h4⟩ := F_draw q3 (m := 4)
  have hl : ((([0, 0, 1, 2, 3, -1, -2, r1 - 9, r2 - 100000000, 100000000000 + r3] : List Int).take (7 + r4).toNat).map D.int) ≠ [] := by
    rw [show (7 + r4).toNat = r4.toNat + 6 + 1 by omega]
    simp
  obtain ⟨d, p5, q5, m5, h5⟩ := F_one_of q4 hl (by simp; omega) (by omega)
  obtain ⟨w, hw, rfl⟩ := List.mem_map.mp m5
  have hw := List.mem_of_mem_take hw
  have hcut := gSl_to (xs := [.int 0, .int 0, .int 1, .int 2, .int 3, .int (-1), .int (-2), .int (r1 - 9), .int (r2 - 100000000), .int (100000000000 + r3)]) (show 0 ≤ 7 + r4 by omega)
  rw [show ([.int 0, .int 0, .int 1, .int 2, .int 3, .int (-1), .int (-2), .int (r1 - 9), .int (r2 - 100000000), .int (100000000000 + r3)] : List D) = ([0, 0, 1, 2, 3, -1, -2, r1 - 9, r2 - 100000000, 100000000000 + r3] : List Int).map D.int from rfl, ← List.map_take] at hcut
  refine ⟨w, p5, q5, ?_, ?_⟩
  · simp only [List.mem_cons, List.not_mem_nil, or_false] at hw
    rcases hw with h | h | h | h | h | h | h | h | h | h <;> omega
  · unfold F__law_wait
    generalize ((([0, 0, 1, 2, 3, -1, -2, r1 - 9, r2 - 100000000, 100000000000 + r3] : List Int).take (7 + r4).toNat).map D.int) = L at *
    simp only [List.map_cons, List.map_nil] at hcut
    exists [h1, h2, h3, h4, h5, pow_8, pow_9, pow_11, hcut], []
end L94
end
section
set_option Elab.async false
set_option linter.all false
set_option maxRecDepth 100000
set_option maxHeartbeats 1000000
namespace L94
open PySem PySem.Spec PyProof.Rows L2 Wp
theorem ten_str : ("0123456789" : Str) = tS [48,49,50,51,52,53,54,55,56,57] := by decide +kernel
theorem nil_str : ("" : Str) = tS [] := by decide +kernel
theorem dig_at {r : Nat} (h : r < 10) : gSub2 (.str "0123456789") (.int (r : Int)) = some (.sh (.str (tS [48 + r]))) := by
  rw [ten_str]
  refine gSub2_tS (by decide) ?_
  have : ∀ r : Fin 10, ([48,49,50,51,52,53,54,55,56,57] : List Nat)[r.val]? = some (48 + r.val) := by decide
  exact this ⟨r, h⟩
theorem gMod_nat (m j : Nat) (h : 0 < j) : Wp.gMod (.int m) (.int j) = some (.sh (.int ((m % j : Nat) : Int))) := by
  show (if (j : Int) = 0 then none else some (Val.sh (.int ((m : Int).fmod j)))) = _
  rw [if_neg (by omega), Int.fmod_eq_emod_of_nonneg _ (by omega)]
  rfl
theorem gDiv_nat (m j : Nat) (h : 0 < j) (hj : j < 1000) : Wp.gDiv (.int m) (.int j) = some (.sh (.int ((m / j : Nat) : Int))) := by
  have : (j : Int).natAbs.log2 < 9000 := Nat.lt_of_lt_of_le (log2_small (n := 10) (by omega) (by decide)) (by decide)
  show (if (j : Int) = 0 then none else if (j : Int).natAbs.log2 < 9000 then some (Val.sh (.int ((m : Int).fdiv j))) else none) = _
  rw [if_neg (by omega), if_pos this, Int.fdiv_eq_ediv_of_nonneg _ (by omega)]
  rfl
abbrev ctN : FT := (fOrT (fBl (Wp.f2 (fVar 2) (fLit (.int 0)) (Wp.p2 (gCmp (cmpF .Gt))))) (fBl (Wp.f2 (fVar 1) (fLit (.str "")) (Wp.p2 gEq))))
theorem num_step {n : Int} {m : Nat} {ds : List Nat} (h : 0 < m ∨ ds = []) (hl : ds.length < 10000) (r : RO Flw) (k : Nat)
    (hr : whileF ctN b__law_number_text_1 k [some (.sh (.int n)), some (.sh (.str (tS ([48 + m % 10] ++ ds)))), some (.sh (.int ((m / 10 : Nat) : Int)))] = r) :
    whileF ctN b__law_number_text_1 (k + 1) [some (.sh (.int n)), some (.sh (.str (tS ds))), some (.sh (.int (m : Int)))] = r := by
  have h1 : ctN [some (.sh (.int n)), some (.sh (.str (tS ds))), some (.sh (.int (m : Int)))] = some (.ok true [some (.sh (.int n)), some (.sh (.str (tS ds))), some (.sh (.int (m : Int)))]) := by
    unfold ctN
    by_cases h0 : 0 < m
    · exists [gGt_t (by omega)], []
    · have e : ds = [] := h.resolve_left h0
      subst e
      exists [gGt_f (by omega), gEqS_t nil_str.symm], []
  have h2 : b__law_number_text_1 [some (.sh (.int n)), some (.sh (.str (tS ds))), some (.sh (.int (m : Int)))] = some (.ok .next [some (.sh (.int n)), some (.sh (.str (tS ([48 + m % 10] ++ ds)))), some (.sh (.int ((m / 10 : Nat) : Int)))]) := by
    unfold b__law_number_text_1
    have q1 := gMod_nat m 10 (by decide)
    have q2 := gDiv_nat m 10 (by decide) (by decide)
    have q3 := dig_at (r := m % 10) (Nat.mod_lt _ (by decide))
    have q4 := gAdd_tS (a := [48 + m % 10]) (b := ds) (by simp; omega)
    change Wp.gMod (.int m) (.int 10) = _ at q1
    change Wp.gDiv (.int m) (.int 10) = _ at q2
    exists [q1, q2, q3, q4], []
  simp only [whileF, h1, bindR_some, if_true, h2, Wp.bindL]
  exact hr
theorem num_end {n : Int} {ds : List Nat} (h : ds ≠ []) (k : Nat) : whileF ctN b__law_number_text_1 (k + 1) [some (.sh (.int n)), some (.sh (.str (tS ds))), some (.sh (.int 0))] = some (.ok .next [some (.sh (.int n)), some (.sh (.str (tS ds))), some (.sh (.int 0))]) := by
  have h1 : ctN [some (.sh (.int n)), some (.sh (.str (tS ds))), some (.sh (.int 0))] = some (.ok false [some (.sh (.int n)), some (.sh (.str (tS ds))), some (.sh (.int 0))]) := by
    unfold ctN
    have e : tS ds ≠ ("" : Str) := fun z => h (tS_inj (z.trans nil_str))
    exists [gGt_f (by omega), gEqS_f e], []
  simp only [whileF, h1, bindR_some, Bool.false_eq_true, if_false, okR]
theorem num_loop (n : Int) : ∀ (k m : Nat) (ds : List Nat), m < 10 ^ (k + 1) → ds.length + k < 9000 → (0 < m ∨ ds = []) →
    whileF ctN b__law_number_text_1 (k + 2) [some (.sh (.int n)), some (.sh (.str (tS ds))), some (.sh (.int (m : Int)))] = some (.ok .next [some (.sh (.int n)), some (.sh (.str (tS (TL.numL m ++ ds)))), some (.sh (.int 0))])
  | 0, m, ds, hm, hl, h => by
    refine num_step h (by omega) _ _ ?_
    have e : m / 10 = 0 := by omega
    rw [e, TL.numL_lt (by omega), show m % 10 = m by omega]
    exact num_end (by simp) 0
  | k + 1, m, ds, hm, hl, h => by
    refine num_step h (by omega) _ _ ?_
    by_cases h9 : m < 10
    · have e : m / 10 = 0 := by omega
      rw [e, TL.numL_lt h9, show m % 10 = m by omega]
      exact num_end (by simp) (k + 1)
    · have := num_loop n k (m / 10) ([48 + m % 10] ++ ds) (by rw [Nat.pow_succ] at hm; omega) (by simp; omega) (.inl (by omega))
      rw [this, TL.numL_step (n := m) (by omega), List.append_assoc]
theorem R_num {n : Int} (h : n.natAbs < 10 ^ 60) : F__law_number_text [.sh (.int n)] = some (.ok (.sh (.str (tS (numI n)))) [some (.sh (.int n))]) := by
  have hw0 := num_loop n 4094 n.natAbs [] (Nat.lt_of_lt_of_le h (by decide +kernel)) (by simp) (.inr rfl)
  rw [List.append_nil, ← nil_str] at hw0
  have hw : fWhile 4096 ctN b__law_number_text_1 [some (.sh (.int n)), some (.sh (.str "")), some (.sh (.int (n.natAbs : Int)))] = _ := hw0
  have ha : Wp.gAbs (.int n) = some (.sh (.int (n.natAbs : Int))) := by
    show some (Val.sh (.int (if n < 0 then -n else n))) = _
    congr 3
    split <;> omega
  have hl := TL.numL_len (n := n.natAbs) (k := 60) (by decide) h
  unfold F__law_number_text
  by_cases h0 : n < 0
  · have e : numI n = [45] ++ TL.numL n.natAbs := by unfold numI; rw [if_pos h0]; rfl
    have hm : ("-" : Str) = tS [45] := by decide +kernel
    have q := gAdd_tS (a := [45]) (b := TL.numL n.natAbs) (by simp; omega)
    rw [e, hm]
    generalize TL.numL n.natAbs = X at *
    exists [hw, ha, q, gLt_t h0], []
  · have e : numI n = TL.numL n.natAbs := by unfold numI; rw [if_neg h0]
    rw [e]
    generalize TL.numL n.natAbs = X at *
    exists [hw, ha, gLt_f h0], []
end L94
end
section
set_option Elab.async false
set_option linter.all false
set_option maxRecDepth 100000
set_option maxHeartbeats 1000000
namespace L94
open PySem PySem.Spec PyProof.Rows L2 Wp
theorem R_is_name {x : Str} (h : okName x = true) : F_is_name [.sh (.str x)] = some (.ok (.sh (.bl true)) [some (.sh (.str x))]) := by
  have hl := okName_len h
  have hin : ∀ c, c ∈ x.cps.toList → gIn true (.str ⟨#[c]⟩) c_LETTERS = some (.sh (.bl false)) := fun c hc => gIn_ltr (okName_ltr h hc)
  have hz : x.cps.toList.length < sizeLine := by
    rw [sizeLine_eq]
    show x.cps.size < _
    have : x.length = x.cps.size := rfl
    omega
  have hisi : gIsi bt_str ct_str (.str x) = some (.sh (.bl true)) := rfl
  have hlen : gLen (.str x) = some (.sh (.int x.length)) := by
    show (if x.length ≤ sizeLine then _ else _) = _
    rw [if_pos (by rw [sizeLine_eq]; omega)]
  unfold F_is_name
  exists [hin _ (by assumption), hz, hisi, hlen, gLt_f (by omega), gGt_f (by omega), gEq_nil], [], 0
theorem R_is_whole (n : Int) : F_is_whole [.sh (.int n)] = some (.ok (.sh (.bl true)) [some (.sh (.int n))]) := by
  have h1 : gIsi bt_int ct_int (.int n) = some (.sh (.bl true)) := rfl
  have h2 : gIsi bt_bool ct_bool (.int n) = some (.sh (.bl false)) := rfl
  unfold F_is_whole
  exists [h1, h2], []
theorem chain_ok {x0 : Option Val} {k : Int} {n : Nat} {d e : D} (h1 : 1 ≤ k) (h2 : k ≤ n) (ha : gSub2 d (.int 1) = some (.sh (.int k))) (hb : gSub2 d (.int 2) = some (.sh e)) (hc : gLen e = some (.sh (.int n))) :
    fChain (fLit (.int 1)) (f2 (fVar 0) (fLit (.int 1)) (Wp.p2 gSub2)) (fn (fCons (f2 (fVar 0) (fLit (.int 2)) (Wp.p2 gSub2)) fNil) (Wp.p1 gLen)) (cmpF .LtE) (cmpF .LtE) [some (.sh d)] = some (.ok (.pend (.sh (.bl true))) [some (.sh d)]) := by
  have c1 : cmpF .LtE 1 k = true := decide_eq_true h1
  have c2 : cmpF .LtE k n = true := decide_eq_true h2
  rw [← c2]
  exists [ha, hb, hc, c1], []
theorem R_is_term : ∀ (d n : Nat), (∀ t : Trm, t.fit d → d ≤ 25 → 2 * d < n → F_is_term n [.sh t.d] = some (.ok (.sh (.bl true)) [some (.sh t.d)])) ∧
    (∀ ts : List Trm, ts ≠ [] → ts.length < 2000 → (∀ t ∈ ts, t.fit d) → d ≤ 25 → 2 * d + 1 < n → F_are_terms n [.sh (.lst (ts.map Trm.d))] = some (.ok (.sh (.bl true)) [some (.sh (.lst (ts.map Trm.d)))])) := by
  intro d n
  induction n generalizing d with
  | zero => exact ⟨fun _ _ _ h => by omega, fun _ _ _ _ _ h => by omega⟩
  | succ n ih =>
    refine ⟨fun t ht h25 hd => ?_, fun ts h0 hl hs h25 hd => ?_⟩
    · rw [F_is_term_s]
      unfold B_is_term
      cases t with
      | part w x i =>
        have hn := R_is_name (x := x) (by simpa [Trm.ok] using ht.ok)
        have hw := R_is_whole i
        have h1 : gIsi bt_str ct_str (.str (wd w)) = some (.sh (.bl true)) := rfl
        have h2 : gIsi bt_tuple ct_tuple (.tup [.str (wd w), .str x, .int i]) = some (.sh (.bl true)) := rfl
        have h3 : gIn false (.str (wd w)) (.tup [.str "of", .str "now"]) = some (.sh (.bl true)) := gIn2_t (by cases w <;> simp)
        simp only [Trm.d]
        generalize wd w = W at *
        exists [hn, hw, h1, h2, h3, gLt_f (by decide), gEq_t rfl], [atI_0, atI_1, atI_2]
      | grp k ts =>
        obtain ⟨e, rfl⟩ := ht.part
        obtain ⟨t0, hk, tl, tf⟩ := ht.grp
        have ha := (ih e).2 ts t0 tl tf (by omega) (by omega)
        rw [Trm.d, Trm.ds_map]
        cases k with
        | first =>
          have h1 : gIsi bt_str ct_str (.str "first") = some (.sh (.bl true)) := rfl
          have h2 : gIsi bt_tuple ct_tuple (.tup [.str "first", .lst (ts.map Trm.d)]) = some (.sh (.bl true)) := rfl
          simp only [grpD]
          generalize ts.map Trm.d = T at *
          exists [ha, h1, h2, gLt_f (by decide), gEq_t rfl, gIn2_f (by decide), gIn2_t (by decide)], [atI_0, atI_1, atI_2]
        | last =>
          have h1 : gIsi bt_str ct_str (.str "last") = some (.sh (.bl true)) := rfl
          have h2 : gIsi bt_tuple ct_tuple (.tup [.str "last", .lst (ts.map Trm.d)]) = some (.sh (.bl true)) := rfl
          simp only [grpD]
          generalize ts.map Trm.d = T at *
          exists [ha, h1, h2, gLt_f (by decide), gEq_t rfl, gIn2_f (by decide), gIn2_t (by decide)], [atI_0, atI_1, atI_2]
        | rank j =>
          have hw := R_is_whole j
          have h1 : gIsi bt_str ct_str (.str "rank") = some (.sh (.bl true)) := rfl
          have h2 : gIsi bt_tuple ct_tuple (.tup [.str "rank", .int j, .lst (ts.map Trm.d)]) = some (.sh (.bl true)) := rfl
          simp only [Kd.ok, Bool.and_eq_true, decide_eq_true_eq] at hk
          have hc := chain_ok (x0 := none) (d := .tup [.str "rank", .int j, .lst (ts.map Trm.d)]) (e := .lst (ts.map Trm.d)) (n := ts.length) hk.1 hk.2 (by simp [gSub2, gIx, atI_1]) (by simp [gSub2, gIx, atI_2]) (by simp [gLen])
          simp only [grpD]
          generalize ts.map Trm.d = T at *
          exists [ha, hw, h1, h2, hc, gLt_f (by decide), gNe_f rfl, gNeS_f rfl, gIn2_f (by decide)], [atI_0, atI_1, atI_2]
    · rw [F_are_terms_s]
      unfold B_are_terms
      have h1 : gIsi bt_list ct_list (.lst (ts.map Trm.d)) = some (.sh (.bl true)) := rfl
      have h2 := gEq_ds h0 hs h25
      have h3 : ∀ t, t ∈ ts → F_is_term n [.sh t.d] = some (.ok (.sh (.bl true)) [some (.sh t.d)]) := fun t ht => (ih d).1 t (hs t ht) h25 (by omega)
      have hz : ts.length < sizeLine := by rw [sizeLine_eq]; omega
      exists [h1, h2, h3 _ (by assumption), hz, gEq_nil], [Bool.not_true], 0
end L94
end
section
set_option Elab.async false
set_option linter.all false
set_option maxRecDepth 100000
set_option maxHeartbeats 1000000
namespace L94
open PySem PySem.Spec PyProof.Rows L2 Wp
theorem R_is_part : ∀ (t : Trm), F_is_part [.sh t.d] = some (.ok (.sh (.bl (match t with | .part _ _ _ => true | _ => false))) [some (.sh t.d)])
  | .part w x n => by
    have h3 : gIn false (.str (wd w)) (.tup [.str "of", .str "now"]) = some (.sh (.bl true)) := gIn2_t (by cases w <;> simp)
    unfold F_is_part
    simp only [Trm.d]
    generalize wd w = W at *
    exists [h3], [atI_0]
  | .grp k ts => by
    unfold F_is_part
    rw [Trm.d]
    generalize D.lst (Trm.ds ts) = T
    cases k with
    | first => simp only [grpD]; exists [gIn2_f (by decide)], [atI_0]
    | last => simp only [grpD]; exists [gIn2_f (by decide)], [atI_0]
    | rank j => simp only [grpD]; exists [gIn2_f (by decide)], [atI_0]
theorem R_with (k : Kd) (l m : D) : F_with_inside [.sh (grpD k l), .sh m] = some (.ok (.sh (grpD k m)) [some (.sh (grpD k l)), some (.sh m)]) := by
  unfold F_with_inside
  cases k with
  | first => simp only [grpD]; exists [gSl_m1_2 _ _], [List.isEmpty_cons]
  | last => simp only [grpD]; exists [gSl_m1_2 _ _], [List.isEmpty_cons]
  | rank j => simp only [grpD]; exists [gSl_m1_3 _ _ _], [List.isEmpty_cons]
theorem at_last (k : Kd) (l : D) : gSub2 (grpD k l) (.int (-1)) = some (.sh l) := by
  cases k with
  | first => exact at_m1_2 _ _
  | last => exact at_m1_2 _ _
  | rank j => exact at_m1_3 _ _ _
theorem R_copied : ∀ (n : Nat) (t : Trm), t.fit 25 → t.dep < n → F_copied n [.sh t.d] = some (.ok (.sh t.d) [some (.sh t.d)])
  | 0, _, _, h => by omega
  | n + 1, t, ht, hd => by
    rw [F_copied_s]
    unfold B_copied
    have hp := R_is_part t
    cases t with
    | part w x i =>
      simp only at hp
      generalize (Trm.part w x i).d = T at *
      exists [hp], []
    | grp k ts =>
      obtain ⟨t0, hk, tl, tf⟩ := ht.grp
      have ih : ∀ t, t ∈ ts → F_copied n [.sh t.d] = some (.ok (.sh t.d) [some (.sh t.d)]) := fun t h => R_copied n t ((tf t h).mono (by omega)) (by
        have := Trm.grp_dep (n := n - 1) (k := k) (ts := ts) (by omega) t h
        simp only [Trm.dep] at hd
        omega)
      have hz : ts.length < sizeLine := by rw [sizeLine_eq]; omega
      have hw := R_with k (.lst (ts.map Trm.d)) (.lst (ts.map Trm.d))
      have hl := at_last k (.lst (ts.map Trm.d))
      simp only at hp
      rw [Trm.d, Trm.ds_map] at hp ⊢
      generalize hG : grpD k (.lst (ts.map Trm.d)) = T at *
      exists [hp, hl, hw, hz, ih _ (by assumption)], [], 0
end L94
end
section
set_option Elab.async false
set_option linter.all false
set_option maxRecDepth 100000
set_option maxHeartbeats 1000000
namespace L94
open PySem PySem.Spec PyProof.Rows L2 Wp
theorem in_form : (decide (("form" : Str) ∈ fsR)) = true := by decide
theorem at_form {i : Nat} {t : Trm} {η : Wp.Env} (h : η[i]? = some (some (.sh (ruD t)))) : fAttr fc_form pt_form "form" (fVar i) η = some (.ok (.pend (.sh t.d)) η) :=
  e_attr (c := 0) (fs := fsR) (ds := [ruD t]) (e_var ⟨h⟩) ⟨by simp [Opv.cls, h, Val.cls, ruD]⟩ ⟨in_form⟩ ⟨rfl⟩ ⟨by simp [prepAll, prep1, h, Val.top]⟩ ⟨rfl⟩
theorem R_chk (t : Trm) : F_check_rule [.sh (ruD t)] = some (.ok (.sh .non) [some (.sh (ruD t))]) := by
  have h : gIsi bt_Rule ct_Rule (ruD t) = some (.sh (.bl true)) := rfl
  unfold F_check_rule
  generalize ruD t = T at *
  exists [h], []
theorem R_Rterm (t : Trm) (ht : t.fit 25) : F_Rule_term [.sh (ruD t)] = some (.ok (.sh t.d) [some (.sh (ruD t))]) := by
  have h1 := R_copied 40 t ht (by have := ht.dep; omega)
  have ha := at_form (i := 0) (t := t) (η := [some (.sh (ruD t))]) rfl
  unfold F_Rule_term
  generalize ruD t = T at *
  generalize t.d = S at *
  exists [h1, ha], []
theorem R_make (t : Trm) (ht : t.fit 19) : F_Rule_init [.oi 0 [] [], .sh t.d] = some (.ok (.sh .non) [some (.oi 0 fsR [.sh t.d]), some (.sh t.d)]) := by
  have h1 := R_copied 40 t (ht.mono (by decide)) (by have := ht.dep; omega)
  have h2 := (R_is_term 19 40).1 t ht (by decide) (by decide)
  unfold F_Rule_init
  generalize t.d = S at *
  exists [h1, h2], [shObj, putFs, putAs]
end L94
end
section
set_option Elab.async false
set_option linter.all false
set_option maxRecDepth 100000
set_option maxHeartbeats 1000000
namespace L94
open PySem PySem.Spec PyProof.Rows L2 Wp
theorem join_run {ts : List Trm} (h : (ts.map fun t => t.tx.length).sum + ts.length * 2 ≤ 100002) : gJoin ", " (.lst (ts.map fun t => .str (tS t.tx))) = some (.sh (.str (tS (joinS [44,32] (Trm.txs ts))))) := by
  have := gJoin_tS (sep := [44,32]) (xs := ts.map Trm.tx) (by
    rw [List.map_map, List.length_map]
    have e : (List.length ∘ Trm.tx) = fun t : Trm => t.tx.length := rfl
    rw [e]
    simp only [List.length_cons, List.length_nil]
    omega)
  rw [List.map_map, List.map_map] at this
  rw [s_cm, Trm.txs_map]
  exact this
theorem R_tt : ∀ (n : Nat) (t : Trm), t.few → t.dep < n → F_term_text n [.sh t.d] = some (.ok (.sh (.str (tS t.tx))) [some (.sh t.d)])
  | 0, _, _, h => by omega
  | n + 1, t, ht, hd => by
    have hlen := ht.len
    rw [F_term_text_s]
    unfold B_term_text
    cases t with
    | part w x i =>
      have hi : i.natAbs < 10 ^ 30 := by simpa [Trm.wok] using ht.wok
      have hs := gStr_tS (n := i) (Nat.lt_trans hi (by decide +kernel))
      obtain ⟨l, rfl⟩ : ∃ l, x = tS l := ⟨_, (of_tS x).symm⟩
      cases w with
      | false =>
        simp only [Trm.tx, tS_tl, List.length_append] at hlen
        simp only [Trm.tx, Trm.d, tS_tl]
        have q1 := addR (s := " ") (a := l) s_bl (by simp at hlen ⊢; omega)
        have q2 := gAdd_tS (a := l ++ [32]) (b := numI i) (by simp at hlen ⊢; omega)
        exists [hs, q1, q2, gEqS_t rfl], [atI_0, atI_1, atI_2]
      | true =>
        simp only [Trm.tx, tS_tl, List.length_append] at hlen
        simp only [Trm.tx, Trm.d, tS_tl]
        have q0 := addL (s := "now ") (b := l) s_now_ (by simp at hlen ⊢; omega)
        have q1 := addR (s := " ") (a := tNow ++ l) s_bl (by simp at hlen ⊢; omega)
        have q2 := gAdd_tS (a := (tNow ++ l) ++ [32]) (b := numI i) (by simp at hlen ⊢; omega)
        exists [hs, q0, q1, q2, gEqS_t rfl, gEqS_f (by decide)], [atI_0, atI_1, atI_2]
    | grp k ts =>
      obtain ⟨t0, hk, tl, tf, sm⟩ := ht.grp
      have ih : ∀ t, t ∈ ts → F_term_text n [.sh t.d] = some (.ok (.sh (.str (tS t.tx))) [some (.sh t.d)]) := fun t h => R_tt n t (tf t h) (by
        have := Trm.grp_dep (n := n - 1) (k := k) (ts := ts) (by omega) t h
        simp only [Trm.dep] at hd
        omega)
      have hz : ts.length < sizeLine := by rw [sizeLine_eq]; omega
      have hj := join_run sm
      have hl := at_last k (.lst (ts.map Trm.d))
      simp only [Trm.tx, List.length_append] at hlen
      have q2 : ∀ a : List Nat, a = k.tx → gAdd (.str (tS (a ++ [40]))) (.str (tS (joinS [44,32] (Trm.txs ts)))) = some (.sh (.str (tS ((a ++ [40]) ++ joinS [44,32] (Trm.txs ts))))) := fun a ha => gAdd_tS (by subst ha; simp at hlen ⊢; omega)
      have q3 : ∀ a : List Nat, a = k.tx → gAdd (.str (tS ((a ++ [40]) ++ joinS [44,32] (Trm.txs ts)))) (.str ")") = some (.sh (.str (tS (((a ++ [40]) ++ joinS [44,32] (Trm.txs ts)) ++ [41])))) := fun a ha => addR s_cl (by subst ha; simp at hlen ⊢; omega)
      have hc : ∀ x1 : Option Val, c_term_text_1 (F_term_text n) [some (.sh (grpD k (.lst (ts.map Trm.d)))), x1, none] = some (.ok (.pend (.ol (ts.map fun t => .sh (.str (tS t.tx))))) [some (.sh (grpD k (.lst (ts.map Trm.d)))), x1, none]) := fun x1 => by
        generalize grpD k (.lst (ts.map Trm.d)) = T at *
        exists [hl, hz, ih _ (by assumption)], [], 0
      rw [Trm.d, Trm.ds_map, Trm.tx]
      generalize joinS [44,32] (Trm.txs ts) = J at *
      cases k with
      | first =>
        simp only [grpD] at *
        have q1 := addR (s := "(") (a := tFirst) s_op (by simp)
        have e2 := q2 tFirst rfl
        have e3 := q3 tFirst rfl
        simp only [Kd.tx]
        rw [← s_first] at q1
        generalize ts.map Trm.d = T at *
        exists [hc _, hj, q1, e2, e3, gEqS_f (by decide)], [atI_0, atI_1, atI_2, shAll_mapF]
      | last =>
        simp only [grpD] at *
        have q1 := addR (s := "(") (a := tLast) s_op (by simp)
        have e2 := q2 tLast rfl
        have e3 := q3 tLast rfl
        simp only [Kd.tx]
        rw [← s_last] at q1
        generalize ts.map Trm.d = T at *
        exists [hc _, hj, q1, e2, e3, gEqS_f (by decide)], [atI_0, atI_1, atI_2, shAll_mapF]
      | rank j =>
        simp only [grpD] at *
        simp only [Kd.ok, Bool.and_eq_true, decide_eq_true_eq] at hk
        have hs := gStr_tS (n := j) (Nat.lt_of_lt_of_le (show j.natAbs < 2000 by omega) (by decide +kernel))
        have hjl : (numI j).length ≤ 5 := numI_len (k := 4) (by decide) (by omega)
        have q0 := addL (s := "rank ") (b := numI j) s_rank_ (by simp; omega)
        have q1 := addR (s := "(") (a := tRank ++ numI j) s_op (by simp; omega)
        have e2 := q2 (tRank ++ numI j) rfl
        have e3 := q3 (tRank ++ numI j) rfl
        simp only [Kd.tx]
        generalize ts.map Trm.d = T at *
        exists [hc _, hs, hj, q0, q1, e2, e3, gEqS_f (by decide), gEqS_t rfl], [atI_0, atI_1, atI_2, shAll_mapF]
end L94
end
section
set_option Elab.async false
set_option linter.all false
set_option maxRecDepth 100000
set_option maxHeartbeats 1000000
namespace L94
open PySem PySem.Spec PyProof.Rows L2 Wp
theorem R_ltt : ∀ (n : Nat) (t : Trm), t.few → t.dep < n → F__law_term_text n [.sh t.d] = some (.ok (.sh (.str (tS t.tx))) [some (.sh t.d)])
  | 0, _, _, h => by omega
  | n + 1, t, ht, hd => by
    have hlen := ht.len
    rw [F__law_term_text_s]
    unfold B__law_term_text
    cases t with
    | part w x i =>
      have hi : i.natAbs < 10 ^ 30 := by simpa [Trm.wok] using ht.wok
      have hs := R_num (n := i) (Nat.lt_trans hi (by decide +kernel))
      obtain ⟨l, rfl⟩ : ∃ l, x = tS l := ⟨_, (of_tS x).symm⟩
      cases w with
      | false =>
        simp only [Trm.tx, tS_tl, List.length_append] at hlen
        simp only [Trm.tx, Trm.d, tS_tl]
        have q1 := addR (s := " ") (a := l) s_bl (by simp at hlen ⊢; omega)
        have q2 := gAdd_tS (a := l ++ [32]) (b := numI i) (by simp at hlen ⊢; omega)
        exists [hs, q1, q2, gEqS_t rfl], [atI_0, atI_1, atI_2]
      | true =>
        simp only [Trm.tx, tS_tl, List.length_append] at hlen
        simp only [Trm.tx, Trm.d, tS_tl]
        have q0 := addL (s := "now ") (b := l) s_now_ (by simp at hlen ⊢; omega)
        have q1 := addR (s := " ") (a := tNow ++ l) s_bl (by simp at hlen ⊢; omega)
        have q2 := gAdd_tS (a := (tNow ++ l) ++ [32]) (b := numI i) (by simp at hlen ⊢; omega)
        exists [hs, q0, q1, q2, gEqS_t rfl, gEqS_f (by decide)], [atI_0, atI_1, atI_2]
    | grp k ts =>
      obtain ⟨t0, hk, tl, tf, sm⟩ := ht.grp
      have ih : ∀ t, t ∈ ts → F__law_term_text n [.sh t.d] = some (.ok (.sh (.str (tS t.tx))) [some (.sh t.d)]) := fun t h => R_ltt n t (tf t h) (by
        have := Trm.grp_dep (n := n - 1) (k := k) (ts := ts) (by omega) t h
        simp only [Trm.dep] at hd
        omega)
      have hz : ts.length < sizeLine := by rw [sizeLine_eq]; omega
      have hj := join_run sm
      have hl := at_last k (.lst (ts.map Trm.d))
      simp only [Trm.tx, List.length_append] at hlen
      have q2 : ∀ a : List Nat, a = k.tx → gAdd (.str (tS (a ++ [40]))) (.str (tS (joinS [44,32] (Trm.txs ts)))) = some (.sh (.str (tS ((a ++ [40]) ++ joinS [44,32] (Trm.txs ts))))) := fun a ha => gAdd_tS (by subst ha; simp at hlen ⊢; omega)
      have q3 : ∀ a : List Nat, a = k.tx → gAdd (.str (tS ((a ++ [40]) ++ joinS [44,32] (Trm.txs ts)))) (.str ")") = some (.sh (.str (tS (((a ++ [40]) ++ joinS [44,32] (Trm.txs ts)) ++ [41])))) := fun a ha => addR s_cl (by subst ha; simp at hlen ⊢; omega)
      have hc : ∀ x1 : Option Val, c__law_term_text_1 (F__law_term_text n) [some (.sh (grpD k (.lst (ts.map Trm.d)))), x1, none] = some (.ok (.pend (.ol (ts.map fun t => .sh (.str (tS t.tx))))) [some (.sh (grpD k (.lst (ts.map Trm.d)))), x1, none]) := fun x1 => by
        generalize grpD k (.lst (ts.map Trm.d)) = T at *
        exists [hl, hz, ih _ (by assumption)], [], 0
      rw [Trm.d, Trm.ds_map, Trm.tx]
      generalize joinS [44,32] (Trm.txs ts) = J at *
      cases k with
      | first =>
        simp only [grpD] at *
        have q1 := addR (s := "(") (a := tFirst) s_op (by simp)
        have e2 := q2 tFirst rfl
        have e3 := q3 tFirst rfl
        simp only [Kd.tx]
        rw [← s_first] at q1
        generalize ts.map Trm.d = T at *
        exists [hc _, hj, q1, e2, e3, gEqS_f (by decide)], [atI_0, atI_1, atI_2, shAll_mapF]
      | last =>
        simp only [grpD] at *
        have q1 := addR (s := "(") (a := tLast) s_op (by simp)
        have e2 := q2 tLast rfl
        have e3 := q3 tLast rfl
        simp only [Kd.tx]
        rw [← s_last] at q1
        generalize ts.map Trm.d = T at *
        exists [hc _, hj, q1, e2, e3, gEqS_f (by decide)], [atI_0, atI_1, atI_2, shAll_mapF]
      | rank j =>
        simp only [grpD] at *
        simp only [Kd.ok, Bool.and_eq_true, decide_eq_true_eq] at hk
        have hs := R_num (n := j) (Nat.lt_of_lt_of_le (show j.natAbs < 2000 by omega) (by decide +kernel))
        have hjl : (numI j).length ≤ 5 := numI_len (k := 4) (by decide) (by omega)
        have q9 : gAdd (.str "rank") (.str " ") = some (.sh (.str (tS tRank))) := by
          have := addR (s := " ") (a := [114,97,110,107]) s_bl (by simp)
          rw [← s_rank] at this
          exact this
        have q0 := gAdd_tS (a := tRank) (b := numI j) (by simp; omega)
        have q1 := addR (s := "(") (a := tRank ++ numI j) s_op (by simp; omega)
        have e2 := q2 (tRank ++ numI j) rfl
        have e3 := q3 (tRank ++ numI j) rfl
        simp only [Kd.tx]
        generalize ts.map Trm.d = T at *
        exists [hc _, hs, hj, q9, q0, q1, e2, e3, gEqS_f (by decide), gEqS_t rfl], [atI_0, atI_1, atI_2, shAll_mapF]
end L94
end
section
set_option Elab.async false
set_option linter.all false
set_option maxRecDepth 100000
set_option maxHeartbeats 1000000
namespace L94
open PySem PySem.Spec PyProof.Rows L2 Wp
theorem R_whole_of {n : Int} (h : n.natAbs < 10 ^ 60) : F_whole_of [.sh (.str (tS (numI n)))] = some (.ok (.sh (.int n)) [some (.sh (.str (tS (numI n))))]) := by
  have hl := TL.numL_len (n := n.natAbs) (k := 60) (by decide) h
  have hl2 := numI_len (n := n) (k := 60) (by decide) h
  have hi := gIntS_tS (n := n) (by omega)
  have hd := TL.numL_digits n.natAbs
  have hne := TL.numL_ne n.natAbs
  have hin : ∀ c, c ∈ (tS (TL.numL n.natAbs)).cps.toList → gIn true (.str ⟨#[c]⟩) (.str "0123456789") = some (.sh (.bl false)) := fun c hc => by
    rw [tS_tl] at hc
    have := hd c hc
    rw [ten_str, tS_one, gIn_tS]
    rw [decide_eq_true (show c ∈ ([48,49,50,51,52,53,54,55,56,57] : List Nat) by simp; omega)]
    rfl
  have hz : (tS (TL.numL n.natAbs)).cps.toList.length < sizeLine := by rw [tS_tl, sizeLine_eq]; omega
  have hm : ("-" : Str) = tS [45] := by decide +kernel
  have hn0 : tS (TL.numL n.natAbs) ≠ ("" : Str) := fun z => hne (tS_inj (z.trans nil_str))
  obtain ⟨c, r, e1, c1, c2, c3⟩ := numL_head n.natAbs
  have h00 : ("0" : Str) = tS [48] := by decide +kernel
  by_cases h0 : n < 0
  · have e : numI n = 45 :: TL.numL n.natAbs := by unfold numI; rw [if_pos h0]
    have s1 : gSlS none (some 1) (.str (tS (numI n))) = some (.sh (.str (tS [45]))) := gSlS_tS (by omega) (by rw [e]; exact cut_upto _ 1)
    have s2 : gSlS (some 1) none (.str (tS (numI n))) = some (.sh (.str (tS (TL.numL n.natAbs)))) := gSlS_tS (by omega) (by rw [e]; exact cut_from _ 1)
    have d0 : gSub2 (.str (tS (TL.numL n.natAbs))) (.int 0) = some (.sh (.str (tS [c]))) := gSub2_tS (i := 0) (by omega) (by rw [e1]; rfl)
    have hc : tS [c] ≠ ("0" : Str) := fun z => by
      have := tS_inj (z.trans h00)
      have c48 : c = 48 := by simpa using this
      have := (c3 c48).1
      omega
    unfold F_whole_of
    generalize tS (numI n) = N at *
    generalize tS (TL.numL n.natAbs) = L at *
    exists [s1, s2, d0, hi, hz, hin _ (by assumption), gEqS_t hm.symm, gEqS_f hn0, gEqS_f hc, gNe_nil], [], 0
  · have e : numI n = TL.numL n.natAbs := by unfold numI; rw [if_neg h0]
    rw [e] at hi ⊢
    have s1 : gSlS none (some 1) (.str (tS (TL.numL n.natAbs))) = some (.sh (.str (tS [c]))) := gSlS_tS (by omega) (by rw [e1]; exact cut_upto _ 1)
    have d0 : gSub2 (.str (tS (TL.numL n.natAbs))) (.int 0) = some (.sh (.str (tS [c]))) := gSub2_tS (i := 0) (by omega) (by rw [e1]; rfl)
    have hc45 : tS [c] ≠ ("-" : Str) := fun z => by
      have := tS_inj (z.trans hm)
      have : c = 45 := by simpa using this
      omega
    unfold F_whole_of
    by_cases c48 : c = 48
    · have er : TL.numL n.natAbs = [48] := by rw [e1, c48, (c3 c48).2]
      have ez : tS (TL.numL n.natAbs) = ("0" : Str) := by rw [er, h00]
      have hc0 : tS [c] = ("0" : Str) := by rw [c48, h00]
      clear er
      generalize tS (TL.numL n.natAbs) = L at *
      exists [s1, d0, hi, hz, hin _ (by assumption), gEqS_f hc45, gEqS_f hn0, gEqS_t hc0, gNeS_f ez, gNe_nil], [], 0
    · have hc : tS [c] ≠ ("0" : Str) := fun z => by
        have := tS_inj (z.trans h00)
        exact c48 (by simpa using this)
      generalize tS (TL.numL n.natAbs) = L at *
      exists [s1, d0, hi, hz, hin _ (by assumption), gEqS_f hc45, gEqS_f hn0, gEqS_f hc, gNe_nil], [], 0
abbrev ct1 : FT := (fAndT (fBl (Wp.f2 (fVar 2) (fn (fCons (fVar 0) fNil) (Wp.p1 gLen)) (Wp.p2 (gCmp (cmpF .Lt))))) (fBl (Wp.f2 (Wp.f2 (fVar 0) (fVar 2) (Wp.p2 gSub2)) (fLit c_LETTERS) (Wp.p2 (gIn false)))))
abbrev ct2 : FT := (fAndT (fBl (Wp.f2 (fVar 3) (fn (fCons (fVar 0) fNil) (Wp.p1 gLen)) (Wp.p2 (gCmp (cmpF .Lt))))) (fBl (Wp.f2 (Wp.f2 (fVar 0) (fVar 3) (Wp.p2 gSub2)) (fLit (.str "-0123456789")) (Wp.p2 (gIn false)))))
abbrev dgs : List Nat := [45,48,49,50,51,52,53,54,55,56,57]
theorem dgs_str : ("-0123456789" : Str) = tS dgs := by decide +kernel
theorem in_abc (c : Nat) : gIn false (.str (tS [c])) c_LETTERS = some (.sh (.bl (decide (c ∈ abc.cps.toList)))) := by
  have : c_LETTERS = .str (tS abc.cps.toList) := by rw [of_tS]; rfl
  rw [this, gIn_tS]
  rfl
theorem in_dgs (c : Nat) : gIn false (.str (tS [c])) (.str "-0123456789") = some (.sh (.bl (decide (c ∈ dgs)))) := by
  rw [dgs_str, gIn_tS]
  rfl
theorem scan1 (l : List Nat) (hl : l.length ≤ 16777216) (x1 x3 x4 : Option Val) : ∀ (m p k : Nat), (∀ i < m, ∃ c, l[p + i]? = some c ∧ c ∈ abc.cps.toList) → (∃ c, l[p + m]? = some c ∧ c ∉ abc.cps.toList) → m < k →
    whileF ct1 b_named_at_1 k [some (.sh (.str (tS l))), x1, some (.sh (.int (p : Int))), x3, x4] = some (.ok .next [some (.sh (.str (tS l))), x1, some (.sh (.int ((p + m : Nat) : Int))), x3, x4])
  | m, p, 0, _, _, hk => by omega
  | 0, p, k + 1, _, ⟨c, hc, hn⟩, _ => by
    have hp : p < l.length := by
      have := (List.getElem?_eq_some_iff.mp hc).1
      simpa using this
    have q1 := gSub2_tS (l := l) (i := p) hl (by simpa using hc)
    have q2 := in_abc c
    rw [decide_eq_false hn] at q2
    have q3 := gLen_tS hl
    have h1 : ct1 [some (.sh (.str (tS l))), x1, some (.sh (.int (p : Int))), x3, x4] = some (.ok false [some (.sh (.str (tS l))), x1, some (.sh (.int (p : Int))), x3, x4]) := by
      unfold ct1
      generalize tS l = L at *
      exists [q1, q2, q3, gLt_t (by omega)], []
    simp only [whileF, h1, bindR_some, Bool.false_eq_true, if_false, okR, Nat.add_zero]
  | m + 1, p, k + 1, ha, hb, hk => by
    obtain ⟨c, hc, hn⟩ := ha 0 (by omega)
    rw [Nat.add_zero] at hc
    have hp : p < l.length := (List.getElem?_eq_some_iff.mp hc).1
    have q1 := gSub2_tS (l := l) (i := p) hl hc
    have q2 := in_abc c
    rw [decide_eq_true hn] at q2
    have q3 := gLen_tS hl
    have h1 : ct1 [some (.sh (.str (tS l))), x1, some (.sh (.int (p : Int))), x3, x4] = some (.ok true [some (.sh (.str (tS l))), x1, some (.sh (.int (p : Int))), x3, x4]) := by
      unfold ct1
      generalize tS l = L at *
      exists [q1, q2, q3, gLt_t (by omega)], []
    have h2 : b_named_at_1 [some (.sh (.str (tS l))), x1, some (.sh (.int (p : Int))), x3, x4] = some (.ok .next [some (.sh (.str (tS l))), x1, some (.sh (.int ((p + 1 : Nat) : Int))), x3, x4]) := by
      have : ((p + 1 : Nat) : Int) = (p : Int) + 1 := rfl
      rw [this]
      unfold b_named_at_1
      exists [], []
    have ih := scan1 l hl x1 x3 x4 m (p + 1) k (fun i hi => by
      obtain ⟨c, h1, h2⟩ := ha (i + 1) (by omega)
      exact ⟨c, by rw [show p + 1 + i = p + (i + 1) by omega]; exact h1, h2⟩) (by
      obtain ⟨c, h1, h2⟩ := hb
      exact ⟨c, by rw [show p + 1 + m = p + (m + 1) by omega]; exact h1, h2⟩) (by omega)
    simp only [whileF, h1, bindR_some, if_true, h2, Wp.bindL]
    rw [ih, show p + 1 + m = p + (m + 1) by omega]
theorem scan2 (l : List Nat) (hl : l.length ≤ 16777216) (x1 x2 x4 : Option Val) : ∀ (m p k : Nat), (∀ i < m, ∃ c, l[p + i]? = some c ∧ c ∈ dgs) → (l.length = p + m ∨ ∃ c, l[p + m]? = some c ∧ c ∉ dgs) → m < k →
    whileF ct2 b_named_at_2 k [some (.sh (.str (tS l))), x1, x2, some (.sh (.int (p : Int))), x4] = some (.ok .next [some (.sh (.str (tS l))), x1, x2, some (.sh (.int ((p + m : Nat) : Int))), x4])
  | m, p, 0, _, _, hk => by omega
  | 0, p, k + 1, _, hb, _ => by
    have q3 := gLen_tS hl
    have h1 : ct2 [some (.sh (.str (tS l))), x1, x2, some (.sh (.int (p : Int))), x4] = some (.ok false [some (.sh (.str (tS l))), x1, x2, some (.sh (.int (p : Int))), x4]) := by
      unfold ct2
      rcases hb with hb | ⟨c, hc, hn⟩
      · generalize tS l = L at *
        exists [q3, gLt_f (by omega)], []
      · have hp : p < l.length := by
          have := (List.getElem?_eq_some_iff.mp hc).1
          simpa using this
        have q1 := gSub2_tS (l := l) (i := p) hl (by simpa using hc)
        have q2 := in_dgs c
        rw [decide_eq_false hn] at q2
        generalize tS l = L at *
        exists [q1, q2, q3, gLt_t (by omega)], []
    simp only [whileF, h1, bindR_some, Bool.false_eq_true, if_false, okR, Nat.add_zero]
  | m + 1, p, k + 1, ha, hb, hk => by
    obtain ⟨c, hc, hn⟩ := ha 0 (by omega)
    rw [Nat.add_zero] at hc
    have hp : p < l.length := (List.getElem?_eq_some_iff.mp hc).1
    have q1 := gSub2_tS (l := l) (i := p) hl hc
    have q2 := in_dgs c
    rw [decide_eq_true hn] at q2
    have q3 := gLen_tS hl
    have h1 : ct2 [some (.sh (.str (tS l))), x1, x2, some (.sh (.int (p : Int))), x4] = some (.ok true [some (.sh (.str (tS l))), x1, x2, some (.sh (.int (p : Int))), x4]) := by
      unfold ct2
      generalize tS l = L at *
      exists [q1, q2, q3, gLt_t (by omega)], []
    have h2 : b_named_at_2 [some (.sh (.str (tS l))), x1, x2, some (.sh (.int (p : Int))), x4] = some (.ok .next [some (.sh (.str (tS l))), x1, x2, some (.sh (.int ((p + 1 : Nat) : Int))), x4]) := by
      have : ((p + 1 : Nat) : Int) = (p : Int) + 1 := rfl
      rw [this]
      unfold b_named_at_2
      exists [], []
    have ih := scan2 l hl x1 x2 x4 m (p + 1) k (fun i hi => by
      obtain ⟨c, h1, h2⟩ := ha (i + 1) (by omega)
      exact ⟨c, by rw [show p + 1 + i = p + (i + 1) by omega]; exact h1, h2⟩) (by
      rcases hb with hb | ⟨c, h1, h2⟩
      · exact .inl (by omega)
      · exact .inr ⟨c, by rw [show p + 1 + m = p + (m + 1) by omega]; exact h1, h2⟩) (by omega)
    simp only [whileF, h1, bindR_some, if_true, h2, Wp.bindL]
    rw [ih, show p + 1 + m = p + (m + 1) by omega]
end L94
end
section
set_option Elab.async false
set_option linter.all false
set_option maxRecDepth 100000
set_option maxHeartbeats 1000000
namespace L94
open PySem PySem.Spec PyProof.Rows L2 Wp
theorem abc_rng : ∀ c ∈ abc.cps.toList, 97 ≤ c ∧ c ≤ 122 := by decide +kernel
def Stops (R : List Nat) : Prop := R = [] ∨ ∃ c r, R = c :: r ∧ (c = 44 ∨ c = 41)
theorem at_pre (P Q : List Nat) (i : Nat) : (P ++ Q)[P.length + i]? = Q[i]? := by
  rw [List.getElem?_append_right (Nat.le_add_right _ _), Nat.add_sub_cancel_left]
theorem R_named {P x R : List Nat} {n : Int} (hx : okName (tS x) = true) (hn : n.natAbs < 10 ^ 30) (hs : R = [] ∨ ∃ c r, R = c :: r ∧ c ∉ dgs) (hl : (P ++ (x ++ (32 :: (numI n ++ R)))).length ≤ 16777216) :
    F_named_at [.sh (.str (tS (P ++ (x ++ (32 :: (numI n ++ R)))))), .sh (.int (P.length : Int))] =
      some (.ok (.sh (.tup [.str (tS x), .int n, .int ((P.length + x.length + 1 + (numI n).length : Nat) : Int)])) [some (.sh (.str (tS (P ++ (x ++ (32 :: (numI n ++ R))))))), some (.sh (.int (P.length : Int)))]) := by
  have hlx := okName_len hx
  rw [tS_len] at hlx
  have hln := numI_len (n := n) (k := 30) (by decide) hn
  have hw := R_whole_of (n := n) (Nat.lt_trans hn (by decide +kernel))
  have hnm := R_is_name hx
  generalize hT : P ++ (x ++ (32 :: (numI n ++ R))) = T at *
  have h1 := scan1 T hl (some (.sh (.int (P.length : Int)))) none none x.length P.length 4096 (fun i hi => by
    refine ⟨x[i], ?_, okName_ltr hx (by rw [tS_tl]; exact List.getElem_mem hi)⟩
    rw [← hT, at_pre, List.getElem?_append_left hi, List.getElem?_eq_getElem hi]) ⟨32, by rw [← hT, at_pre, List.getElem?_append_right (Nat.le_refl _), Nat.sub_self]; rfl, fun z => by have := abc_rng 32 z; omega⟩ (by omega)
  have h2 := fun x1 x2 => scan2 T hl x1 x2 none (numI n).length (P.length + x.length + 1) 4096 (fun i hi => by
    refine ⟨(numI n)[i], ?_, ?_⟩
    · rw [← hT, show P.length + x.length + 1 + i = P.length + (x.length + (1 + i)) by omega, at_pre, at_pre, show 1 + i = i + 1 by omega, List.getElem?_cons_succ, List.getElem?_append_left hi, List.getElem?_eq_getElem hi]
    · have := numI_free (List.getElem_mem hi)
      simp
      omega) (by
    rcases hs with rfl | ⟨c, r, rfl, hc⟩
    · left
      rw [← hT]
      simp
      omega
    · right
      refine ⟨c, ?_, hc⟩
      rw [← hT, show P.length + x.length + 1 + (numI n).length = P.length + (x.length + ((numI n).length + 1)) by omega, at_pre, at_pre, List.getElem?_cons_succ, List.getElem?_append_right (Nat.le_refl _), Nat.sub_self]
      rfl) (by omega)
  have s1 : gSlS (some (P.length : Int)) (some ((P.length + x.length : Nat) : Int)) (.str (tS T)) = some (.sh (.str (tS x))) := gSlS_tS hl (by
    rw [cut_tS, ← hT, List.drop_left, Nat.add_sub_cancel_left, List.take_left])
  have s2 : gSlS (some ((P.length + x.length : Nat) : Int)) (some (((P.length + x.length : Nat) : Int) + 1)) (.str (tS T)) = some (.sh (.str (tS [32]))) := gSlS_tS hl (by
    have := cut_tS T (P.length + x.length) (P.length + x.length + 1)
    rw [show ((P.length + x.length + 1 : Nat) : Int) = ((P.length + x.length : Nat) : Int) + 1 from rfl] at this
    rw [this, Nat.add_sub_cancel_left, ← hT, ← List.append_assoc, ← List.length_append, List.drop_left]
    rfl)
  have s3 : gSlS (some (((P.length + x.length : Nat) : Int) + 1)) (some ((P.length + x.length + 1 + (numI n).length : Nat) : Int)) (.str (tS T)) = some (.sh (.str (tS (numI n)))) := gSlS_tS hl (by
    have := cut_tS T (P.length + x.length + 1) (P.length + x.length + 1 + (numI n).length)
    rw [show ((P.length + x.length + 1 : Nat) : Int) = ((P.length + x.length : Nat) : Int) + 1 from rfl] at this
    rw [this, Nat.add_sub_cancel_left, ← hT]
    rw [show P ++ (x ++ 32 :: (numI n ++ R)) = (P ++ (x ++ [32])) ++ (numI n ++ R) by simp, show P.length + x.length + 1 = (P ++ (x ++ [32])).length by simp; omega, List.drop_left, List.take_left])
  have e32 : tS [32] = (" " : Str) := s_bl.symm
  have h2' : ∀ x1 x2, fWhile 4096 ct2 b_named_at_2 [some (.sh (.str (tS T))), x1, x2, some (.sh (.int (((P.length + x.length : Nat) : Int) + 1))), none] = some (.ok .next [some (.sh (.str (tS T))), x1, x2, some (.sh (.int ((P.length + x.length + 1 + (numI n).length : Nat) : Int))), none]) := h2
  have h1' : fWhile 4096 ct1 b_named_at_1 [some (.sh (.str (tS T))), some (.sh (.int (P.length : Int))), some (.sh (.int (P.length : Int))), none, none] = _ := h1
  clear h1 h2 hT hs hl
  unfold F_named_at
  generalize tS T = L at *
  generalize (P.length + x.length + 1 + (numI n).length) = q at *
  generalize (P.length + x.length) = e at *
  generalize tS x = X at *
  generalize tS (numI n) = N at *
  generalize (P.length : Int) = p at *
  exists [h1', h2' _ _, s1, s2, s3, hw, hnm, gNeS_f e32], []
end L94
end
section
set_option Elab.async false
set_option linter.all false
set_option maxRecDepth 100000
set_option maxHeartbeats 1000000
namespace L94
open PySem PySem.Spec PyProof.Rows L2 Wp
theorem no_op : ∀ {w x : List Nat} (r : List Nat), (∀ c ∈ w, 97 ≤ c) → (∀ c ∈ x, 97 ≤ c) → (w ++ [40]).isPrefixOf (x ++ 32 :: r) = false
  | [], [], _, _, _ => rfl
  | [], c :: x, _, _, hx => by
    have := hx c List.mem_cons_self
    simp only [List.nil_append, List.cons_append, List.isPrefixOf, Bool.and_eq_false_iff, beq_eq_false_iff_ne]
    exact .inl (by omega)
  | a :: w, [], _, hw, _ => by
    have := hw a List.mem_cons_self
    simp only [List.nil_append, List.cons_append, List.isPrefixOf, Bool.and_eq_false_iff, beq_eq_false_iff_ne]
    exact .inl (by omega)
  | a :: w, c :: x, r, hw, hx => by
    have := no_op (w := w) (x := x) r (fun c h => hw c (List.mem_cons_of_mem _ h)) fun c h => hx c (List.mem_cons_of_mem _ h)
    simp only [List.cons_append, List.isPrefixOf, this, Bool.and_false]
theorem pre_bl : ∀ {w x : List Nat} (r : List Nat), (∀ c ∈ w, 97 ≤ c) → (∀ c ∈ x, 97 ≤ c) → (w ++ [32]).isPrefixOf (x ++ 32 :: r) = decide (w = x)
  | [], [], _, _, _ => by simp [List.isPrefixOf]
  | [], c :: x, _, _, hx => by
    have := hx c List.mem_cons_self
    simp [List.isPrefixOf]
    omega
  | a :: w, [], _, hw, _ => by
    have := hw a List.mem_cons_self
    simp [List.isPrefixOf]
    omega
  | a :: w, c :: x, r, hw, hx => by
    have := pre_bl (w := w) (x := x) r (fun c h => hw c (List.mem_cons_of_mem _ h)) fun c h => hx c (List.mem_cons_of_mem _ h)
    simp only [List.cons_append, List.isPrefixOf, this, List.cons.injEq]
    by_cases h1 : a = c <;> by_cases h2 : w = x <;> simp [h1, h2]
theorem pre_t (b R : List Nat) : b.isPrefixOf (b ++ R) = true := by
  rw [List.isPrefixOf_iff_prefix]
  exact List.prefix_append b R
theorem st_eq {P Q w : List Nat} {v : Bool} (h : w.isPrefixOf Q = v) : gStarts (tS (P ++ Q)) [.str (tS w), .int (P.length : Int)] = some (.sh (.bl v)) := by
  subst h
  show some (Val.sh (.bl (Txt.startswith3 _ _ _))) = _
  rw [starts_tS]
theorem sl_at {P Q : List Nat} (hl : (P ++ Q).length ≤ 16777216) (i : Nat) {a b : Int} (ha : a = (P.length + i : Nat)) (hb : b = a + 1) : gSlS (some a) (some b) (.str (tS (P ++ Q))) = some (.sh (.str (tS ((Q.drop i).take 1)))) := gSlS_tS hl (by
  have e : b = ((P.length + i + 1 : Nat) : Int) := by rw [hb, ha]; rfl
  rw [e, ha, cut_tS, Nat.add_sub_cancel_left]
  congr 2
  rw [List.drop_append, List.drop_of_length_le (Nat.le_add_right _ _), List.nil_append, Nat.add_sub_cancel_left])
theorem ltr_ge {x : List Nat} (hx : okName (tS x) = true) : ∀ c ∈ x, 97 ≤ c := fun c h => (abc_rng c (okName_ltr hx (by rw [tS_tl]; exact h))).1
theorem Stops.free {R : List Nat} (h : Stops R) : R = [] ∨ ∃ c r, R = c :: r ∧ c ∉ dgs := by
  rcases h with h | ⟨c, r, e, h⟩
  · exact .inl h
  · exact .inr ⟨c, r, e, by simp; omega⟩
theorem Stops.no40 {R : List Nat} (h : Stops R) : tS (R.take 1) ≠ ("(" : Str) := by
  rw [s_op]
  intro z
  have := tS_inj z
  rcases h with rfl | ⟨c, r, rfl, h⟩
  · cases this
  · have : c = 40 := by simpa using this
    omega
theorem f_len : gLen (.str "first") = some (.sh (.int 5)) := by rw [s_first, gLen_tS (by simp)]; rfl
theorem l_len : gLen (.str "last") = some (.sh (.int 4)) := by rw [s_last, gLen_tS (by simp)]; rfl
theorem f_op : gAdd (.str "first") (.str "(") = some (.sh (.str (tS (tFirst ++ [40])))) := by rw [s_first]; exact addR s_op (by simp)
theorem l_op : gAdd (.str "last") (.str "(") = some (.sh (.str (tS (tLast ++ [40])))) := by rw [s_last]; exact addR s_op (by simp)
theorem w_ge : (∀ c ∈ tFirst, 97 ≤ c) ∧ (∀ c ∈ tLast, 97 ≤ c) ∧ ∀ c ∈ ([110,111,119] : List Nat), 97 ≤ c := by decide
/-- the part that stands at a place -/
theorem A_part (n : Nat) (w : Bool) {x P R : List Nat} {i : Int} (hx : okName (tS x) = true) (hi : i.natAbs < 10 ^ 30) (hs : Stops R) (hl : (P ++ ((Trm.part w (tS x) i).tx ++ R)).length ≤ 16777216) :
    F_term_at (n + 1) [.sh (.str (tS (P ++ ((Trm.part w (tS x) i).tx ++ R)))), .sh (.int (P.length : Int))] =
      some (.ok (.sh (.tup [(Trm.part w (tS x) i).d, .int ((P.length + (Trm.part w (tS x) i).tx.length : Nat) : Int)])) [some (.sh (.str (tS (P ++ ((Trm.part w (tS x) i).tx ++ R))))), some (.sh (.int (P.length : Int)))]) := by
  have hg := ltr_ge hx
  have hx0 : x ≠ [] := fun z => by
    have := (okName_len hx).1
    rw [tS_len, z] at this
    simp at this
  rw [F_term_at_s]
  unfold B_term_at
  cases w with
  | true =>
    have e : P ++ ((Trm.part true (tS x) i).tx ++ R) = (P ++ tNow) ++ (x ++ (32 :: (numI i ++ R))) := by simp [Trm.tx, tS_tl]
    have e2 : P ++ ((Trm.part true (tS x) i).tx ++ R) = P ++ ([110,111,119] ++ 32 :: (x ++ (32 :: (numI i ++ R)))) := by simp [Trm.tx, tS_tl, tNow]
    have hlen : ((P ++ tNow).length + x.length + 1 + (numI i).length : Nat) = P.length + (Trm.part true (tS x) i).tx.length := by simp [Trm.tx, tS_tl]; omega
    have hn := R_named (P := P ++ tNow) hx hi hs.free (e ▸ hl)
    rw [← e, hlen, show (((P ++ tNow).length : Nat) : Int) = (P.length : Int) + 4 by simp] at hn
    obtain ⟨c, x', rfl⟩ : ∃ c x', x = c :: x' := by
      cases x with
      | nil => exact absurd rfl hx0
      | cons c x' => exact ⟨c, x', rfl⟩
    have s1 := sl_at (P := P) (Q := [110,111,119] ++ 32 :: ((c :: x') ++ (32 :: (numI i ++ R)))) (e2 ▸ hl) 4 (a := (P.length : Int) + 4) (b := (P.length : Int) + 5) (by simp) (by omega)
    have s2 := in_abc c
    rw [decide_eq_true (okName_ltr hx (by rw [tS_tl]; exact List.mem_cons_self))] at s2
    have t1 := st_eq (P := P) (Q := [110,111,119] ++ 32 :: ((c :: x') ++ (32 :: (numI i ++ R)))) (no_op (w := tFirst) _ w_ge.1 w_ge.2.2)
    have t2 := st_eq (P := P) (Q := [110,111,119] ++ 32 :: ((c :: x') ++ (32 :: (numI i ++ R)))) (no_op (w := tLast) _ w_ge.2.1 w_ge.2.2)
    have t3 := st_eq (P := P) (Q := [110,111,119] ++ 32 :: ((c :: x') ++ (32 :: (numI i ++ R)))) (pre_t ([110,111,119] ++ [32]) ((c :: x') ++ (32 :: (numI i ++ R))))
    rw [← e2] at s1 t1 t2
    rw [← e2, show tS ([110,111,119] ++ [32]) = ("now " : Str) from s_now_.symm] at t3
    have s1' : gSlS (some ((P.length : Int) + 4)) (some ((P.length : Int) + 5)) (.str (tS (P ++ ((Trm.part true (tS (c :: x')) i).tx ++ R)))) = some (.sh (.str (tS [c]))) := s1
    clear s1 e e2 hlen hl
    simp only [Trm.d]
    generalize tS (P ++ ((Trm.part true (tS (c :: x')) i).tx ++ R)) = L at *
    generalize (P.length + (Trm.part true (tS (c :: x')) i).tx.length) = q at *
    generalize tS (c :: x') = X at *
    generalize (P.length : Int) = p at *
    exists [hn, t1, t2, t3, s1', s2, f_op, l_op], [atI_0, atI_1, atI_2]
  | false =>
    have e : P ++ ((Trm.part false (tS x) i).tx ++ R) = P ++ (x ++ (32 :: (numI i ++ R))) := by simp [Trm.tx, tS_tl]
    have hlen : (P.length + x.length + 1 + (numI i).length : Nat) = P.length + (Trm.part false (tS x) i).tx.length := by simp [Trm.tx, tS_tl]; omega
    have hn := R_named (P := P) hx hi hs.free (e ▸ hl)
    have s3 := sl_at (P := P ++ (x ++ [32] ++ numI i)) (Q := R) (by rw [e] at hl; simpa using hl) 0 (a := ((P.length + x.length + 1 + (numI i).length : Nat) : Int)) (b := ((P.length + x.length + 1 + (numI i).length : Nat) : Int) + 1) (by simp; omega) rfl
    rw [show P ++ (x ++ [32] ++ numI i) ++ R = P ++ (x ++ (32 :: (numI i ++ R))) by simp, ← e, List.drop_zero, hlen] at s3
    have t1 := st_eq (P := P) (Q := x ++ (32 :: (numI i ++ R))) (no_op (w := tFirst) _ w_ge.1 hg)
    have t2 := st_eq (P := P) (Q := x ++ (32 :: (numI i ++ R))) (no_op (w := tLast) _ w_ge.2.1 hg)
    have t3 := st_eq (P := P) (Q := x ++ (32 :: (numI i ++ R))) (pre_bl (w := [110,111,119]) _ w_ge.2.2 hg)
    rw [← e] at hn t1 t2 t3
    rw [hlen] at hn
    rw [show tS ([110,111,119] ++ [32]) = ("now " : Str) from s_now_.symm] at t3
    have h40 := hs.no40
    have ht : ∃ c, gSlS (some ((P.length : Int) + 4)) (some ((P.length : Int) + 5)) (.str (tS (P ++ ((Trm.part false (tS x) i).tx ++ R)))) = some (.sh (.str (tS [c]))) ∧ gIn false (.str (tS [c])) c_LETTERS = some (.sh (.bl false)) ∨ x ≠ [110,111,119] := by
      by_cases z : x = [110,111,119]
      · obtain ⟨c, r, en⟩ : ∃ c r, numI i = c :: r := by
          cases h : numI i with
          | nil => exact absurd h (numI_ne i)
          | cons c r => exact ⟨c, r, rfl⟩
        refine ⟨c, .inl ⟨?_, ?_⟩⟩
        · have s1 := sl_at (P := P) (Q := x ++ (32 :: (numI i ++ R))) (e ▸ hl) 4 (a := (P.length : Int) + 4) (b := (P.length : Int) + 5) (by simp) (by omega)
          rw [← e] at s1
          rw [s1, z, en]
          rfl
        · have := numI_free (n := i) (c := c) (by rw [en]; exact List.mem_cons_self)
          rw [in_abc, decide_eq_false (fun z => by have := abc_rng c z; omega)]
      · exact ⟨0, .inr z⟩
    have hrk : tS x = ("rank" : Str) ∨ tS x ≠ ("rank" : Str) := Classical.em _
    clear hlen e
    simp only [Trm.d]
    generalize hL : tS (P ++ ((Trm.part false (tS x) i).tx ++ R)) = L at *
    generalize (P.length + (Trm.part false (tS x) i).tx.length) = q at *
    generalize tS x = X at *
    generalize tS (List.take 1 R) = R1 at *
    generalize (P.length : Int) = p at *
    obtain ⟨c, ⟨h1, h2⟩ | h1⟩ := ht
    · generalize decide (([110,111,119] : List Nat) = x) = dd at t3
      rcases hrk with hr | hr <;> cases dd
      · exists [hn, t1, t2, t3, h1, h2, s3, f_op, l_op, gNeS_f hr, gNeS_t h40], [atI_0, atI_1, atI_2]
      · exists [hn, t1, t2, t3, h1, h2, s3, f_op, l_op, gNeS_f hr, gNeS_t h40], [atI_0, atI_1, atI_2]
      · exists [hn, t1, t2, t3, h1, h2, s3, f_op, l_op, gNeS_t hr], [atI_0, atI_1, atI_2]
      · exists [hn, t1, t2, t3, h1, h2, s3, f_op, l_op, gNeS_t hr], [atI_0, atI_1, atI_2]
    · rw [decide_eq_false (Ne.symm h1)] at t3
      rcases hrk with hr | hr
      · exists [hn, t1, t2, t3, s3, f_op, l_op, gNeS_f hr, gNeS_t h40], [atI_0, atI_1, atI_2]
      · exists [hn, t1, t2, t3, s3, f_op, l_op, gNeS_t hr], [atI_0, atI_1, atI_2]
end L94
end
section
set_option Elab.async false
set_option linter.all false
set_option maxRecDepth 100000
set_option maxHeartbeats 1000000
namespace L94
open PySem PySem.Spec PyProof.Rows L2 Wp
theorem map_app1 (G : List D) (d : D) : G.map Val.sh ++ [.sh d] = (G ++ [d]).map Val.sh := by rw [List.map_append]; rfl
def AtOk (n : Nat) (t : Trm) : Prop := ∀ P R : List Nat, Stops R → (P ++ (t.tx ++ R)).length ≤ 16777216 →
  F_term_at n [.sh (.str (tS (P ++ (t.tx ++ R)))), .sh (.int (P.length : Int))] = some (.ok (.sh (.tup [t.d, .int ((P.length + t.tx.length : Nat) : Int)])) [some (.sh (.str (tS (P ++ (t.tx ++ R))))), some (.sh (.int (P.length : Int)))])
abbrev ctT : FT := (fOrT (fBl (Wp.f2 (fVar 2) (fDisp .ol fNil) (Wp.p2 gEq))) (fBl (Wp.f2 (fSliceS (fVar 0) (some (Wp.f2 (fVar 1) (fLit (.int 2)) (Wp.p2 gSub))) (some (fVar 1))) (fLit (.str ", ")) (Wp.p2 gEq))))
theorem ctT_ok {gs : List Trm} {L : Str} {p : Int} {x3 : Option Val} (hg : ∀ t ∈ gs, t.fit 25) (h : gs = [] ∨ gSlS (some (p - 2)) (some p) (.str L) = some (.sh (.str ", "))) :
    ctT [some (.sh (.str L)), some (.sh (.int p)), some (.ol ((gs.map Trm.d).map .sh)), x3] = some (.ok true [some (.sh (.str L)), some (.sh (.int p)), some (.ol ((gs.map Trm.d).map .sh)), x3]) := by
  unfold ctT
  by_cases h0 : gs = []
  · subst h0
    simp only [List.map_nil]
    exists [gEq_nil], []
  · have h1 := gEq_ds h0 hg (Nat.le_refl 25)
    have h2 := h.resolve_left h0
    generalize gs.map Trm.d = G at *
    exists [h1, h2, gEqS_t rfl], []
theorem loop_at (n : Nat) : ∀ (ts gs : List Trm) (P R : List Nat) (k : Nat) (x3 : Option Val), ts ≠ [] → (∀ t ∈ ts, t.fit 25 ∧ AtOk n t) → (∀ t ∈ gs, t.fit 25) → (gs = [] ∨ ∃ P0, P = P0 ++ [44,32]) → ts.length < k → gs.length + ts.length < 4000 →
    (P ++ (joinS [44,32] (Trm.txs ts) ++ 41 :: R)).length ≤ 16777216 →
    ∃ x1 x2 x3', whileF ctT (b_terms_at_1 (F_terms_at n) (F_term_at n)) k [some (.sh (.str (tS (P ++ (joinS [44,32] (Trm.txs ts) ++ 41 :: R))))), some (.sh (.int (P.length : Int))), some (.ol ((gs.map Trm.d).map .sh)), x3] =
      some (.ok (.ret (.ot [.sh (.lst ((gs ++ ts).map Trm.d)), .sh (.int ((P.length + (joinS [44,32] (Trm.txs ts)).length + 1 : Nat) : Int))])) [some (.sh (.str (tS (P ++ (joinS [44,32] (Trm.txs ts) ++ 41 :: R))))), x1, x2, x3'])
  | [], _, _, _, _, _, h, _, _, _, _, _, _ => absurd rfl h
  | _ :: _, _, _, _, 0, _, _, _, _, _, h, _, _ => absurd h (Nat.not_lt_zero _)
  | [t], gs, P, R, k + 1, x3, _, ha, hg, hp, hk, hz, hl => by
    obtain ⟨hf, hA⟩ := ha t (by simp)
    have e : P ++ (joinS [44,32] (Trm.txs [t]) ++ 41 :: R) = P ++ (t.tx ++ 41 :: R) := rfl
    have ej : joinS [44,32] (Trm.txs [t]) = t.tx := rfl
    rw [e] at hl ⊢
    rw [ej]
    have h0 := hA P (41 :: R) (.inr ⟨41, R, rfl, .inr rfl⟩) hl
    have s1 := sl_at (P := P ++ t.tx) (Q := 41 :: R) (by simpa using hl) 0 (a := ((P.length + t.tx.length : Nat) : Int)) (b := ((P.length + t.tx.length : Nat) : Int) + 1) (by simp) rfl
    rw [List.append_assoc] at s1
    have hc := ctT_ok (L := tS (P ++ (t.tx ++ 41 :: R))) (p := (P.length : Int)) (x3 := x3) hg (hp.imp_right fun ⟨P0, e0⟩ => by
      have hw := cut_tS (P ++ (t.tx ++ 41 :: R)) P0.length P.length
      rw [show ((P0.length : Nat) : Int) = (P.length : Int) - 2 by rw [e0]; simp] at hw
      refine gSlS_tS hl (hw.trans ?_) |>.trans (by rw [s_cm])
      rw [e0, List.append_assoc, List.drop_left]
      simp)
    have s41 : tS (List.take 1 (List.drop 0 (41 :: R))) = (")" : Str) := s_cl.symm
    have hb : b_terms_at_1 (F_terms_at n) (F_term_at n) [some (.sh (.str (tS (P ++ (t.tx ++ 41 :: R))))), some (.sh (.int (P.length : Int))), some (.ol ((gs.map Trm.d).map .sh)), x3] =
        some (.ok (.ret (.ot [.sh (.lst ((gs ++ [t]).map Trm.d)), .sh (.int ((P.length + t.tx.length + 1 : Nat) : Int))])) [some (.sh (.str (tS (P ++ (t.tx ++ 41 :: R))))), some (.sh (.int (P.length : Int))), some (.sh (.lst ((gs ++ [t]).map Trm.d))), some (.sh (.tup [t.d, .int ((P.length + t.tx.length : Nat) : Int)]))]) := by
      have hzz : ((gs.map Trm.d).map Val.sh).length < sizeLine := by rw [sizeLine_eq]; simp; omega
      rw [show ((P.length + t.tx.length + 1 : Nat) : Int) = ((P.length + t.tx.length : Nat) : Int) + 1 from rfl, List.map_append, List.map_cons, List.map_nil]
      clear hc
      generalize tS (List.take 1 (List.drop 0 (41 :: R))) = C at *
      generalize tS (P ++ (t.tx ++ 41 :: R)) = L at *
      generalize gs.map Trm.d = G at *
      generalize t.d = T at *
      generalize (P.length + t.tx.length) = q at *
      generalize (P.length : Int) = p at *
      exists [h0, s1, hzz, gEqS_t s41], [atI_0, atI_1, map_app1]
    exact ⟨_, _, _, by simp only [whileF, hc, bindR_some, if_true, hb, Wp.bindL]; rfl⟩
  | t :: t2 :: r, gs, P, R, k + 1, x3, _, ha, hg, hp, hk, hz, hl => by
    obtain ⟨hf, hA⟩ := ha t (by simp)
    have ej : joinS [44,32] (Trm.txs (t :: t2 :: r)) = t.tx ++ (44 :: 32 :: joinS [44,32] (Trm.txs (t2 :: r))) := by simp [Trm.txs, joinS]
    have e : P ++ (joinS [44,32] (Trm.txs (t :: t2 :: r)) ++ 41 :: R) = P ++ (t.tx ++ (44 :: (32 :: (joinS [44,32] (Trm.txs (t2 :: r)) ++ 41 :: R)))) := by rw [ej]; simp
    have e2 : P ++ (joinS [44,32] (Trm.txs (t :: t2 :: r)) ++ 41 :: R) = (P ++ (t.tx ++ [44,32])) ++ (joinS [44,32] (Trm.txs (t2 :: r)) ++ 41 :: R) := by rw [ej]; simp
    have h0 := hA P (44 :: (32 :: (joinS [44,32] (Trm.txs (t2 :: r)) ++ 41 :: R))) (.inr ⟨44, _, rfl, .inl rfl⟩) (e ▸ hl)
    have s1 := sl_at (P := P ++ t.tx) (Q := (44 :: (32 :: (joinS [44,32] (Trm.txs (t2 :: r)) ++ 41 :: R)))) (by rw [e] at hl; simpa using hl) 0 (a := ((P.length + t.tx.length : Nat) : Int)) (b := ((P.length + t.tx.length : Nat) : Int) + 1) (by simp) rfl
    rw [List.append_assoc, ← e] at s1
    rw [← e] at h0
    have hc := ctT_ok (L := tS (P ++ (joinS [44,32] (Trm.txs (t :: t2 :: r)) ++ 41 :: R))) (p := (P.length : Int)) (x3 := x3) hg (hp.imp_right fun ⟨P0, e0⟩ => by
      have hw := cut_tS (P ++ (joinS [44,32] (Trm.txs (t :: t2 :: r)) ++ 41 :: R)) P0.length P.length
      rw [show ((P0.length : Nat) : Int) = (P.length : Int) - 2 by rw [e0]; simp] at hw
      refine gSlS_tS hl (hw.trans ?_) |>.trans (by rw [s_cm])
      rw [e0, List.append_assoc, List.drop_left]
      simp)
    have s44 : tS (List.take 1 (List.drop 0 (44 :: (32 :: (joinS [44,32] (Trm.txs (t2 :: r)) ++ 41 :: R))))) ≠ (")" : Str) := fun z => by
      have := tS_inj (z.trans s_cl)
      simp at this
    have hq : (((P ++ (t.tx ++ [44,32])).length : Nat) : Int) = ((P.length + t.tx.length : Nat) : Int) + 2 := by simp; omega
    have hb : b_terms_at_1 (F_terms_at n) (F_term_at n) [some (.sh (.str (tS (P ++ (joinS [44,32] (Trm.txs (t :: t2 :: r)) ++ 41 :: R))))), some (.sh (.int (P.length : Int))), some (.ol ((gs.map Trm.d).map .sh)), x3] =
        some (.ok .next [some (.sh (.str (tS (P ++ (joinS [44,32] (Trm.txs (t :: t2 :: r)) ++ 41 :: R))))), some (.sh (.int (((P ++ (t.tx ++ [44,32])).length : Nat) : Int))), some (.ol (((gs ++ [t]).map Trm.d).map .sh)), some (.sh (.tup [t.d, .int ((P.length + t.tx.length : Nat) : Int)]))]) := by
      have hzz : ((gs.map Trm.d).map Val.sh).length < sizeLine := by rw [sizeLine_eq]; simp; omega
      rw [hq, List.map_append, List.map_append, List.map_cons, List.map_nil, List.map_cons, List.map_nil]
      clear hc
      generalize tS (List.take 1 (List.drop 0 (44 :: (32 :: (joinS [44,32] (Trm.txs (t2 :: r)) ++ 41 :: R))))) = C at *
      generalize tS (P ++ (joinS [44,32] (Trm.txs (t :: t2 :: r)) ++ 41 :: R)) = L at *
      generalize (gs.map Trm.d).map Val.sh = G at *
      generalize t.d = T at *
      generalize (P.length + t.tx.length) = q at *
      generalize (P.length : Int) = p at *
      exists [h0, s1, hzz, gEqS_f s44], [atI_0, atI_1]
    obtain ⟨y1, y2, y3, ih⟩ := loop_at n (t2 :: r) (gs ++ [t]) (P ++ (t.tx ++ [44,32])) R k (some (.sh (.tup [t.d, .int ((P.length + t.tx.length : Nat) : Int)]))) (by simp) (fun t ht => ha t (List.mem_cons_of_mem _ ht))
      (fun s hs => (List.mem_append.mp hs).elim (hg s) fun h => by obtain rfl : s = t := by simpa using h
                                                                   exact hf) (.inr ⟨P ++ t.tx, by simp⟩) (by simp only [List.length_cons] at hk ⊢; omega) (by simp only [List.length_cons, List.length_append, List.length_nil] at hz ⊢; omega) (e2 ▸ hl)
    rw [← e2] at ih
    refine ⟨y1, y2, y3, ?_⟩
    simp only [whileF, hc, bindR_some, if_true, hb, Wp.bindL]
    rw [ih]
    congr 5
    · simp
    · rw [ej]
      simp
      omega
theorem B_run (n : Nat) {ts : List Trm} (P R : List Nat) (h0 : ts ≠ []) (ha : ∀ t ∈ ts, t.fit 25 ∧ AtOk n t) (hz : ts.length < 4000) (hl : (P ++ (joinS [44,32] (Trm.txs ts) ++ 41 :: R)).length ≤ 16777216) :
    F_terms_at (n + 1) [.sh (.str (tS (P ++ (joinS [44,32] (Trm.txs ts) ++ 41 :: R)))), .sh (.int (P.length : Int))] =
      some (.ok (.sh (.tup [.lst (ts.map Trm.d), .int ((P.length + (joinS [44,32] (Trm.txs ts)).length + 1 : Nat) : Int)])) [some (.sh (.str (tS (P ++ (joinS [44,32] (Trm.txs ts) ++ 41 :: R))))), none]) := by
  obtain ⟨x1, x2, x3, h⟩ := loop_at n ts [] P R 4096 none h0 ha (fun _ h => nomatch h) (.inl rfl) (by omega) (by simpa using hz) hl
  have hw : fWhile 4096 ctT (b_terms_at_1 (F_terms_at n) (F_term_at n)) [some (.sh (.str (tS (P ++ (joinS [44,32] (Trm.txs ts) ++ 41 :: R))))), some (.sh (.int (P.length : Int))), some (.ol []), none] = _ := h
  rw [F_terms_at_s]
  unfold B_terms_at
  rw [List.nil_append] at hw
  clear h ha hl
  generalize tS (P ++ (joinS [44,32] (Trm.txs ts) ++ 41 :: R)) = L at *
  generalize ts.map Trm.d = T at *
  generalize (P.length + (joinS [44,32] (Trm.txs ts)).length + 1) = q at *
  generalize (P.length : Int) = p at *
  exists [hw], []
end L94
end
section
set_option Elab.async false
set_option linter.all false
set_option maxRecDepth 100000
set_option maxHeartbeats 1000000
namespace L94
open PySem PySem.Spec PyProof.Rows L2 Wp
theorem ok_rank : okName (tS [114,97,110,107]) = true := by decide +kernel
theorem len_ds (ts : List Trm) (h : ts.length < 2000) : gLen (.lst (ts.map Trm.d)) = some (.sh (.int (ts.length : Int))) := by
  have : (ts.map Trm.d).length < sizeLine := by rw [sizeLine_eq, List.length_map]; omega
  simp [gLen]
theorem R_at : ∀ (n : Nat) (t : Trm), t.few → 2 * t.dep < n → AtOk n t
  | 0, _, _, h => by omega
  | n + 1, .part w x i, ht, _ => fun P R hs hl => by
    have hx : okName x = true := by simpa [Trm.ok] using ht.fit.ok
    have hi : i.natAbs < 10 ^ 30 := by simpa [Trm.wok] using ht.wok
    obtain ⟨l, rfl⟩ : ∃ l, x = tS l := ⟨_, (of_tS x).symm⟩
    exact A_part n w hx hi hs hl
  | 1, .grp k ts, _, h => by simp only [Trm.dep] at h; omega
  | n + 2, .grp k ts, ht, hd => fun P R hs hl => by
    obtain ⟨t0, hk, tl, tf, _⟩ := ht.grp
    have hA : ∀ t ∈ ts, t.fit 25 ∧ AtOk n t := fun t h => ⟨(tf t h).fit, R_at n t (tf t h) (by
      have := Trm.grp_dep (n := (Trm.grp k ts).dep - 1) (k := k) (ts := ts) (by simp only [Trm.dep]; omega) t h
      simp only [Trm.dep] at hd this
      omega)⟩
    have e : P ++ ((Trm.grp k ts).tx ++ R) = (P ++ (k.tx ++ [40])) ++ (joinS [44,32] (Trm.txs ts) ++ 41 :: R) := by simp [Trm.tx]
    have hB := B_run n (P ++ (k.tx ++ [40])) R t0 hA (by omega) (e ▸ hl)
    have hlen : ((P ++ (k.tx ++ [40])).length + (joinS [44,32] (Trm.txs ts)).length + 1 : Nat) = P.length + (Trm.grp k ts).tx.length := by simp [Trm.tx]; omega
    rw [← e, hlen] at hB
    have hgl := len_ds ts tl
    rw [F_term_at_s]
    unfold B_term_at
    rw [Trm.d, Trm.ds_map]
    cases k with
    | first =>
      have ep : (((P ++ (Kd.first.tx ++ [40])).length : Nat) : Int) = (P.length : Int) + 5 + 1 := by simp [Kd.tx]; omega
      rw [ep] at hB
      have e2 : P ++ ((Trm.grp .first ts).tx ++ R) = P ++ ((tFirst ++ [40]) ++ (joinS [44,32] (Trm.txs ts) ++ 41 :: R)) := by simp [Trm.tx, Kd.tx]
      have t1 := st_eq (P := P) (Q := (tFirst ++ [40]) ++ (joinS [44,32] (Trm.txs ts) ++ 41 :: R)) (pre_t (tFirst ++ [40]) _)
      rw [← e2] at t1
      clear e e2 hl hA ep hlen
      simp only [grpD]
      generalize tS (P ++ ((Trm.grp .first ts).tx ++ R)) = L at *
      generalize (P.length + (Trm.grp .first ts).tx.length) = q at *
      generalize ts.map Trm.d = T at *
      generalize (P.length : Int) = p at *
      exists [hB, t1, f_op, l_op, f_len], [atI_0, atI_1]
    | last =>
      have ep : (((P ++ (Kd.last.tx ++ [40])).length : Nat) : Int) = (P.length : Int) + 4 + 1 := by simp [Kd.tx]; omega
      rw [ep] at hB
      have e2 : P ++ ((Trm.grp .last ts).tx ++ R) = P ++ ((tLast ++ [40]) ++ (joinS [44,32] (Trm.txs ts) ++ 41 :: R)) := by simp [Trm.tx, Kd.tx]
      have t1 := st_eq (P := P) (Q := (tLast ++ [40]) ++ (joinS [44,32] (Trm.txs ts) ++ 41 :: R)) (w := tFirst ++ [40]) (v := false) rfl
      have t2 := st_eq (P := P) (Q := (tLast ++ [40]) ++ (joinS [44,32] (Trm.txs ts) ++ 41 :: R)) (pre_t (tLast ++ [40]) _)
      rw [← e2] at t1 t2
      clear e e2 hl hA ep hlen
      simp only [grpD]
      generalize tS (P ++ ((Trm.grp .last ts).tx ++ R)) = L at *
      generalize (P.length + (Trm.grp .last ts).tx.length) = q at *
      generalize ts.map Trm.d = T at *
      generalize (P.length : Int) = p at *
      exists [hB, t1, t2, f_op, l_op, l_len], [atI_0, atI_1]
    | rank j =>
      simp only [Kd.ok, Bool.and_eq_true, decide_eq_true_eq] at hk
      have hj : j.natAbs < 10 ^ 30 := Nat.lt_of_lt_of_le (show j.natAbs < 2000 by omega) (by decide +kernel)
      have e3 : P ++ ((Trm.grp (.rank j) ts).tx ++ R) = P ++ ([114,97,110,107] ++ (32 :: (numI j ++ (40 :: (joinS [44,32] (Trm.txs ts) ++ 41 :: R))))) := by simp [Trm.tx, Kd.tx, tRank]
      have hn := R_named (P := P) (x := [114,97,110,107]) (n := j) (R := 40 :: (joinS [44,32] (Trm.txs ts) ++ 41 :: R)) ok_rank hj (.inr ⟨40, _, rfl, by decide⟩) (e3 ▸ hl)
      have ep : (((P ++ ((Kd.rank j).tx ++ [40])).length : Nat) : Int) = ((P.length + ([114,97,110,107] : List Nat).length + 1 + (numI j).length : Nat) : Int) + 1 := by simp [Kd.tx]; omega
      rw [ep] at hB
      have t1 := st_eq (P := P) (Q := ([114,97,110,107] ++ (32 :: (numI j ++ (40 :: (joinS [44,32] (Trm.txs ts) ++ 41 :: R)))))) (w := tFirst ++ [40]) (v := false) rfl
      have t2 := st_eq (P := P) (Q := ([114,97,110,107] ++ (32 :: (numI j ++ (40 :: (joinS [44,32] (Trm.txs ts) ++ 41 :: R)))))) (w := tLast ++ [40]) (v := false) rfl
      have t3 := st_eq (P := P) (Q := ([114,97,110,107] ++ (32 :: (numI j ++ (40 :: (joinS [44,32] (Trm.txs ts) ++ 41 :: R)))))) (w := tNow) (v := false) rfl
      have s3 := sl_at (P := P ++ ([114,97,110,107] ++ [32] ++ numI j)) (Q := 40 :: (joinS [44,32] (Trm.txs ts) ++ 41 :: R)) (by rw [e3] at hl; simpa using hl) 0 (a := ((P.length + ([114,97,110,107] : List Nat).length + 1 + (numI j).length : Nat) : Int)) (b := ((P.length + ([114,97,110,107] : List Nat).length + 1 + (numI j).length : Nat) : Int) + 1) (by simp; omega) rfl
      rw [show P ++ ([114,97,110,107] ++ [32] ++ numI j) ++ (40 :: (joinS [44,32] (Trm.txs ts) ++ 41 :: R)) = P ++ ([114,97,110,107] ++ (32 :: (numI j ++ (40 :: (joinS [44,32] (Trm.txs ts) ++ 41 :: R))))) by simp, ← e3] at s3
      rw [← e3] at hn t1 t2 t3
      have s40 : tS (List.take 1 (List.drop 0 (40 :: (joinS [44,32] (Trm.txs ts) ++ 41 :: R)))) = ("(" : Str) := s_op.symm
      rw [show tS tNow = ("now " : Str) from s_now_.symm] at t3
      have hr := s_rank.symm
      clear e e3 hl hA ep hlen
      simp only [grpD]
      generalize tS (List.take 1 (List.drop 0 (40 :: (joinS [44,32] (Trm.txs ts) ++ 41 :: R)))) = C at *
      generalize tS (P ++ ((Trm.grp (.rank j) ts).tx ++ R)) = L at *
      generalize (P.length + (Trm.grp (.rank j) ts).tx.length) = q at *
      generalize (P.length + ([114,97,110,107] : List Nat).length + 1 + (numI j).length) = q1 at *
      generalize ts.map Trm.d = T at *
      generalize (P.length : Int) = p at *
      generalize tS [114,97,110,107] = X at *
      exists [hB, hn, t1, t2, t3, s3, f_op, l_op, hgl, gNeS_f hr, gNeS_f s40, gLt_f (by omega), gGt_f (by omega)], [atI_0, atI_1, atI_2]
end L94
end
section
set_option Elab.async false
set_option linter.all false
set_option maxRecDepth 100000
set_option maxHeartbeats 1000000
namespace L94
open PySem PySem.Spec PyProof.Rows L2 Wp
theorem ru_obj (t : Trm) : ruD t = .obj 0 fsR [t.d] := rfl
theorem no_term : (decide (("term" : Str) ∈ fsR)) = false := by decide +kernel
theorem R_Rtext (t : Trm) (ht : t.few) (h19 : t.fit 19) : F_rule_text [.sh (ruD t)] = some (.ok (.sh (.str (tS t.tx))) [some (.sh (ruD t))]) := by
  have h1 := R_chk t
  have h2 := R_Rterm t ht.fit
  have h3 := R_tt 40 t ht (by have := h19.dep; omega)
  have hn := no_term
  unfold F_rule_text
  rw [ru_obj] at *
  generalize tS t.tx = L at *
  generalize t.d = S at *
  generalize fsR = fs at *
  exists [h1, h2, h3], [Opv.cls, Val.cls, hn]
theorem at_0 (t : Trm) (ht : t.few) (h19 : t.fit 19) : F_term_at 40 [.sh (.str (tS t.tx)), .sh (.int 0)] = some (.ok (.sh (.tup [t.d, .int (t.tx.length : Int)])) [some (.sh (.str (tS t.tx))), some (.sh (.int 0))]) := by
  have := R_at 40 t ht (by have := h19.dep; omega) [] [] (.inl rfl) (by have := ht.len; simp; omega)
  rw [List.nil_append, List.append_nil, List.length_nil, Nat.zero_add] at this
  exact this
theorem R_rule_in (t : Trm) (ht : t.few) (h19 : t.fit 19) : F_rule_in [.sh (.str (tS t.tx))] = some (.ok (.sh (ruD t)) [some (.sh (.str (tS t.tx)))]) := by
  have h1 := at_0 t ht h19
  have h2 := R_make t h19
  have h3 := gLen_tS (a := t.tx) (by have := ht.len; omega)
  unfold F_rule_in
  rw [ru_obj]
  generalize tS t.tx = L at *
  generalize (t.tx.length : Int) = q at *
  generalize t.d = S at *
  exists [h1, h2, h3, gNe_f rfl], [atI_0, atI_1]
theorem R_read (t : Trm) (ht : t.few) (h19 : t.fit 19) : F_read_rule [.sh (.str (tS t.tx))] = some (.ok (.sh (ruD t)) [some (.sh (.str (tS t.tx)))]) := by
  have h1 := R_rule_in t ht h19
  have h2 : F_read_by [.sh (.fn 100), .sh (.str (tS t.tx))] = some (.ok (.sh (ruD t)) [some (.sh (.fn 100)), some (.sh (.str (tS t.tx)))]) := by
    have h : gIsi bt_str ct_str (.str (tS t.tx)) = some (.sh (.bl true)) := rfl
    unfold F_read_by
    rw [ru_obj] at h1 ⊢
    generalize tS t.tx = L at *
    generalize t.d = S at *
    exists [h1, h], [fnT, i_rule_in]
  unfold F_read_rule
  generalize tS t.tx = L at *
  generalize ruD t = S at *
  exists [h2], []
theorem R_ruleEqB (a b : Trm) (ha : a.fit 25) (hb : b.fit 25) {v : Bool} (hv : v = true ↔ a.d = b.d) : F_Rule_eq [.sh (ruD a), .sh (ruD b)] = some (.ok (.sh (.bl v)) [some (.sh (ruD a)), some (.sh (ruD b))]) := by
  have h : gIsi bt_Rule ct_Rule (ruD b) = some (.sh (.bl true)) := rfl
  have h1 := at_form (i := 0) (t := a) (η := [some (.sh (ruD a)), some (.sh (ruD b))]) rfl
  have h2 := at_form (i := 1) (t := b) (η := [some (.sh (ruD a)), some (.sh (ruD b))]) rfl
  have hg : gEq a.d b.d = some (.sh (.bl v)) := by
    by_cases e : a.d = b.d
    · rw [hv.mpr e, ← e]
      exact gEq_same (Trm.plain ha.ok) (by have := Trm.d_dp a; have := ha.dep; omega)
    · rw [show v = false by cases v; rfl; exact absurd (hv.mp rfl) e]
      exact gEq_ne (Trm.plain ha.ok) (Trm.plain hb.ok) (by have := Trm.d_dp a; have := ha.dep; omega) (by have := Trm.d_dp b; have := hb.dep; omega) e
  clear hv
  unfold F_Rule_eq
  generalize ruD a = A at *
  generalize ruD b = B at *
  generalize a.d = C at *
  generalize b.d = D at *
  exists [h, h1, h2, hg], []
theorem tx_iff {a b : Trm} (ha : a.few) (ha9 : a.fit 19) (hb : b.few) (hb9 : b.fit 19) : a.tx = b.tx ↔ a.d = b.d := by
  constructor
  · intro e
    have h1 := at_0 a ha ha9
    have h2 := at_0 b hb hb9
    rw [e, h2] at h1
    simp only [Option.some.injEq, Res.ok.injEq, Val.sh.injEq, D.tup.injEq, List.cons.injEq] at h1
    exact h1.1.1.symm
  · intro e
    have h1 := R_tt 40 a ha (by have := ha9.dep; omega)
    have h2 := R_tt 40 b hb (by have := hb9.dep; omega)
    rw [e, h2] at h1
    simp only [Option.some.injEq, Res.ok.injEq, Val.sh.injEq, D.str.injEq] at h1
    exact (tS_inj h1.1).symm
end L94
end
section
set_option Elab.async false
set_option linter.all false
set_option maxRecDepth 100000
set_option maxHeartbeats 1000000
namespace L94
open PySem PySem.Spec PyProof.Rows L2 Wp
/-- small terms -/
structure Gd (m : Nat) (t : Trm) : Prop where
  ok : t.ok = true
  dep : t.dep ≤ m
  wide : t.leaves.length ≤ 2 ^ m
  wok : t.wok = true
  len : t.tx.length ≤ 100 * 4 ^ m
theorem Gd.few {m : Nat} {t : Trm} (h : Gd m t) (hm : m ≤ 4) : t.few ∧ t.fit 19 := by
  have h1 : 2 ^ m ≤ 2 ^ 4 := Nat.pow_le_pow_right (by decide) hm
  have h2 : 4 ^ m ≤ 4 ^ 4 := Nat.pow_le_pow_right (by decide) hm
  have h3 : t.fit 19 := ⟨h.ok, by have := h.dep; omega, by have := h.wide; omega⟩
  exact ⟨⟨h3.mono (by decide), h.wok, by have := h.len; omega⟩, h3⟩
theorem Gd.mono {m n : Nat} {t : Trm} (h : Gd m t) (hm : m ≤ n) : Gd n t :=
  ⟨h.ok, Nat.le_trans h.dep hm, Nat.le_trans h.wide (Nat.pow_le_pow_right (by decide) hm), h.wok, Nat.le_trans h.len (Nat.mul_le_mul_left _ (Nat.pow_le_pow_right (by decide) hm))⟩
theorem Gd.part (w : Bool) {x : Str} {i : Int} (hx : okName x = true) (hi : -200000000000 ≤ i ∧ i ≤ 200000000000) : Gd 0 (.part w x i) := by
  have h1 := okName_len hx
  have h2 : (numI i).length ≤ 13 := numI_len (k := 12) (by decide) (by omega)
  refine ⟨by simpa [Trm.ok] using hx, by simp [Trm.dep], by simp [Trm.leaves], by simp [Trm.wok]; omega, ?_⟩
  have h3 : x.cps.toList.length ≤ 8 := by
    have := tS_len x.cps.toList
    rw [of_tS] at this
    omega
  cases w <;> simp [Trm.tx] <;> simp at h3 <;> omega
def kds (n : Nat) : List Kd := [.first, .last] ++ (List.range n).map fun i : Nat => .rank (i + 1 : Nat)
def over (ts : List Trm) : List Trm := (kds ts.length).map fun k => .grp k ts
theorem Gd.over {m : Nat} {ts : List Trm} (h0 : ts.length = 1 ∨ ts.length = 2) (h : ∀ t ∈ ts, Gd m t) : ∀ t ∈ over ts, Gd (m + 1) t := by
  intro t ht
  obtain ⟨k, hk, rfl⟩ := List.mem_map.mp ht
  have hne : ts ≠ [] := by
    rintro rfl
    simp at h0
  have hkl : k.ok ts.length = true ∧ k.tx.length ≤ 10 := by
    simp only [kds, List.mem_append, List.mem_cons, List.not_mem_nil, or_false, List.mem_map, List.mem_range] at hk
    rcases hk with (rfl | rfl) | ⟨i, hi, rfl⟩
    · exact ⟨rfl, by simp [Kd.tx]⟩
    · exact ⟨rfl, by simp [Kd.tx]⟩
    · refine ⟨by simp only [Kd.ok, Bool.and_eq_true, decide_eq_true_eq]; omega, ?_⟩
      have := numI_len (n := ((i + 1 : Nat) : Int)) (k := 1) (by decide) (by omega)
      simp only [Kd.tx, List.length_append, tRank_len]
      omega
  have hsum : (Trm.leavess ts).length ≤ 2 * 2 ^ m ∧ (ts.map fun t => t.tx.length).sum ≤ 2 * (100 * 4 ^ m) := by
    match ts, h0, h with
    | [a], _, h =>
      have h1 := (h a (by simp)).wide
      have h2 := (h a (by simp)).len
      simp only [List.map_cons, List.map_nil, List.sum_cons, List.sum_nil, Trm.leavess, List.length_append, List.length_nil]
      omega
    | [a, b], _, h =>
      have h1 := (h a (by simp)).wide
      have h2 := (h a (by simp)).len
      have h3 := (h b (by simp)).wide
      have h4 := (h b (by simp)).len
      simp only [List.map_cons, List.map_nil, List.sum_cons, List.sum_nil, Trm.leavess, List.length_append, List.length_nil]
      omega
  refine ⟨?_, ?_, ?_, ?_, ?_⟩
  · simp only [Trm.ok, Bool.and_eq_true, Bool.not_eq_true', List.isEmpty_eq_false_iff]
    exact ⟨⟨hne, hkl.1⟩, Trm.oks_all.mpr fun t ht => (h t ht).ok⟩
  · simp only [Trm.dep]
    have := Trm.deps_le (n := m) (ts := ts) |>.mpr fun t ht => (h t ht).dep
    omega
  · simp only [Trm.leaves]
    rw [Nat.pow_succ]
    omega
  · simp only [Trm.wok]
    exact Trm.woks_all.mpr fun t ht => (h t ht).wok
  · have hj := joinS_len [44,32] (ts.map Trm.tx) (by simpa using hne)
    simp only [Trm.tx, List.length_append, Trm.txs_map, List.length_cons, List.length_nil]
    rw [List.map_map, List.length_map] at hj
    have e : (List.length ∘ Trm.tx) = fun t : Trm => t.tx.length := rfl
    rw [e] at hj
    have := Nat.pow_pos (n := m) (show 0 < 4 by decide)
    rw [Nat.pow_succ]
    simp only [List.length_cons, List.length_nil] at hj
    rcases h0 with h0 | h0 <;> rw [h0] at hj <;> omega
theorem rng_1 : rngV 0 (1 : Int).toNat = [.sh (.int 0)] := rfl
theorem rng_2 : rngV 0 (2 : Int).toNat = [.sh (.int 0), .sh (.int 1)] := rfl
theorem R_over {ts : List Trm} (h0 : ts.length = 1 ∨ ts.length = 2) : F__law_over [.sh (.lst (ts.map Trm.d))] = some (.ok (.sh (.lst ((over ts).map Trm.d))) [some (.sh (.lst (ts.map Trm.d)))]) := by
  have e : ∀ k : Kd, (Trm.grp k ts).d = grpD k (.lst (ts.map Trm.d)) := fun k => by rw [Trm.d, Trm.ds_map]
  have s1 : small62 (1 : Int) = true := by decide
  have s2 : small62 (2 : Int) = true := by decide
  rcases h0 with h0 | h0
  · have hl : gLen (.lst (ts.map Trm.d)) = some (.sh (.int 1)) := by
      rw [len_ds ts (by omega), h0]
      rfl
    have ho : (over ts).map Trm.d = [grpD .first (.lst (ts.map Trm.d)), grpD .last (.lst (ts.map Trm.d)), grpD (.rank 1) (.lst (ts.map Trm.d))] := by
      simp [over, kds, h0, e]
    rw [ho]
    simp only [grpD]
    generalize ts.map Trm.d = T at *
    have hr : ∀ x1, fRng1 (fCons (fn (fCons (fVar 0) fNil) (Wp.p1 gLen)) fNil) [some (.sh (.lst T)), x1, none] = some (.ok (rngV 0 (1 : Int).toNat) [some (.sh (.lst T)), x1, none]) := fun x1 => by exists [hl, s1], []
    simp only [rng_1] at hr
    unfold F__law_over
    exists [hr _], []
  · have hl : gLen (.lst (ts.map Trm.d)) = some (.sh (.int 2)) := by
      rw [len_ds ts (by omega), h0]
      rfl
    have ho : (over ts).map Trm.d = [grpD .first (.lst (ts.map Trm.d)), grpD .last (.lst (ts.map Trm.d)), grpD (.rank 1) (.lst (ts.map Trm.d)), grpD (.rank 2) (.lst (ts.map Trm.d))] := by
      simp [over, kds, h0, e, List.range_succ]
    rw [ho]
    simp only [grpD]
    generalize ts.map Trm.d = T at *
    have hr : ∀ x1, fRng1 (fCons (fn (fCons (fVar 0) fNil) (Wp.p1 gLen)) fNil) [some (.sh (.lst T)), x1, none] = some (.ok (rngV 0 (2 : Int).toNat) [some (.sh (.lst T)), x1, none]) := fun x1 => by exists [hl, s2], []
    simp only [rng_2] at hr
    unfold F__law_over
    exists [hr _], []
end L94
end
section
set_option Elab.async false
set_option linter.all false
set_option maxRecDepth 100000
set_option maxHeartbeats 1000000
namespace L94
open PySem PySem.Spec PyProof.Rows L2 Wp
def partsT (x y : Str) (w : Int) : List Trm := [.part false x 0, .part false x w, .part false y 0, .part false y w, .part true x 0, .part true x w, .part true y 0, .part true y w]
theorem partsT_ok {x y : Str} {w : Int} (hx : okName x = true) (hy : okName y = true) (hw : -200000000000 ≤ w ∧ w ≤ 200000000000) : ∀ t ∈ partsT x y w, Gd 0 t := by
  intro t ht
  simp only [partsT, List.mem_cons, List.not_mem_nil, or_false] at ht
  rcases ht with rfl | rfl | rfl | rfl | rfl | rfl | rfl | rfl <;> exact Gd.part _ (by assumption) (by omega)
theorem cut_2 (a b c d e : D) : gSl none (some 2) (.lst [a, b, c, d, e]) = some (.ol [.sh a, .sh b]) := rfl
theorem loopA (P : Option Val) (x y : Str) (w : Int) (x4 x5 x6 x7 x8 x9 : Option Val) :
    fFor (gNm 4) b__law_terms_2 (fSeqI (fDisp .ot (fCons (fLit (.str "of")) (fCons (fLit (.str "now")) fNil)))) [P, some (.ol [.sh (.str x), .sh (.str y)]), some (.ol [.sh (.int 0), .sh (.int w)]), some (.ol []), x4, x5, x6, x7, x8, x9, none] =
      some (.ok .next [P, some (.sh (.lst [.str x, .str y])), some (.sh (.lst [.int 0, .int w])), some (.ol (((partsT x y w).map Trm.d).map .sh)), some (.sh (.str "now")), some (.sh (.str y)), x6, x7, x8, x9, none]) := by
  have e1 : ("of" : Str) = wd false := rfl
  have e2 : ("now" : Str) = wd true := rfl
  simp only [partsT, List.map_cons, List.map_nil, Trm.d]
  rw [e1, e2]
  generalize wd false = W1 at *
  generalize wd true = W2 at *
  exists [], []
abbrev EV (P N W K Y : Option Val) (ps fs : List Trm) (x7 x8 x9 : Option Val) : Wp.Env := [P, N, W, some (.sh (.lst (ps.map Trm.d))), K, Y, some (.ol ((fs.map Trm.d).map .sh)), x7, x8, x9, none]
theorem app_ds (fs gs : List Trm) : (fs ++ gs).map Trm.d = fs.map Trm.d ++ gs.map Trm.d := List.map_append
theorem gAdd_l {a b : List D} (h : a.length + b.length ≤ sizeLine) : gAdd (.lst a) (.lst b) = some (.ol ((a ++ b).map .sh)) := by
  show (if a.length + b.length ≤ sizeLine then some (Val.ol ((a ++ b).map .sh)) else none) = _
  rw [if_pos h]
theorem over_len (ts : List Trm) : (over ts).length = ts.length + 2 := by simp [over, kds]
theorem add_ds {fs gs : List Trm} (h : fs.length + gs.length ≤ 2000) : gAdd (.lst (fs.map Trm.d)) (.lst (gs.map Trm.d)) = some (.ol ((fs.map Trm.d ++ gs.map Trm.d).map .sh)) := gAdd_l (by rw [sizeLine_eq, List.length_map, List.length_map]; omega)
theorem stepB (P N W K Y : Option Val) (ps fs : List Trm) (t : Trm) (x8 x9 : Option Val) (hz : fs.length ≤ 1000) :
    b__law_terms_3 (EV P N W K Y ps fs (some (.sh t.d)) x8 x9) = some (.ok .next (EV P N W K Y ps (fs ++ over [t]) (some (.sh t.d)) x8 x9)) := by
  have h := R_over (ts := [t]) (.inl rfl)
  simp only [List.map_cons, List.map_nil] at h
  unfold EV
  rw [app_ds]
  have ha := add_ds (fs := fs) (gs := over [t]) (by rw [over_len]; simp; omega)
  generalize (over [t]).map Trm.d = G at *
  generalize fs.map Trm.d = F at *
  generalize ps.map Trm.d = S at *
  generalize t.d = T at *
  exists [h, ha], []
theorem stepC (P N W K Y : Option Val) (ps fs : List Trm) (s t : Trm) (x9 : Option Val) (hz : fs.length ≤ 1000) :
    b__law_terms_4 (EV P N W K Y ps fs (some (.sh s.d)) (some (.sh t.d)) x9) = some (.ok .next (EV P N W K Y ps (fs ++ over [s, t]) (some (.sh s.d)) (some (.sh t.d)) x9)) := by
  have h := R_over (ts := [s, t]) (.inr rfl)
  simp only [List.map_cons, List.map_nil] at h
  unfold EV
  rw [app_ds]
  have ha := add_ds (fs := fs) (gs := over [s, t]) (by rw [over_len]; simp; omega)
  generalize (over [s, t]).map Trm.d = G at *
  generalize fs.map Trm.d = F at *
  generalize ps.map Trm.d = S at *
  generalize s.d = U at *
  generalize t.d = T at *
  exists [h, ha], []
theorem stepD (P N W K Y : Option Val) (ps fs : List Trm) (l t : Trm) (x7 x8 : Option Val) (hz : fs.length ≤ 1000) (hl : gSub2 (.lst (ps.map Trm.d)) (.int (-1)) = some (.sh l.d)) :
    b__law_terms_6 (EV P N W K Y ps fs x7 x8 (some (.sh t.d))) = some (.ok .next (EV P N W K Y ps (((fs ++ over [t]) ++ over [t, l]) ++ over [l, t]) x7 x8 (some (.sh t.d)))) := by
  have h1 := R_over (ts := [t]) (.inl rfl)
  have h2 := R_over (ts := [t, l]) (.inr rfl)
  have h3 := R_over (ts := [l, t]) (.inr rfl)
  simp only [List.map_cons, List.map_nil] at h1 h2 h3
  unfold EV
  have ha := add_ds (fs := fs) (gs := over [t]) (by rw [over_len]; simp; omega)
  have hb := add_ds (fs := fs ++ over [t]) (gs := over [t, l]) (by rw [List.length_append, over_len, over_len]; simp; omega)
  have hc := add_ds (fs := (fs ++ over [t]) ++ over [t, l]) (gs := over [l, t]) (by rw [List.length_append, List.length_append, over_len, over_len, over_len]; simp; omega)
  rw [app_ds] at hb
  rw [app_ds, app_ds] at hc
  rw [app_ds, app_ds, app_ds]
  generalize (over [t]).map Trm.d = G at *
  generalize (over [t, l]).map Trm.d = G2 at *
  generalize (over [l, t]).map Trm.d = G3 at *
  generalize fs.map Trm.d = F at *
  generalize ps.map Trm.d = S at *
  generalize l.d = U at *
  generalize t.d = T at *
  exists [h1, h2, h3, hl, ha, hb, hc], []
/-- what the terms found are -/
def Fd (n : Nat) (fs : List Trm) : Prop := (∀ t ∈ fs, Gd 2 t) ∧ fs.length ≤ n ∧ fs ≠ []
theorem Fd.app {n m : Nat} {fs gs : List Trm} (h : Fd n fs) (hg : ∀ t ∈ gs, Gd 2 t) (hl : n + gs.length ≤ m) : Fd m (fs ++ gs) :=
  ⟨fun t ht => (List.mem_append.mp ht).elim (h.1 t) (hg t), by rw [List.length_append]; have := h.2.1; omega, by have := h.2.2; simp [this]⟩
theorem loop_fd {S : Type} {gt : FG} {body : FS} (E : List Trm → S → Wp.Env) (c : Nat) : ∀ (us : List Trm) (n : Nat) (fs : List Trm) (s : S),
    (∀ t ∈ us, ∀ n fs s, Fd n fs → n + c ≤ 1000 → ∃ η1 fs' s', gt (.sh t.d) (E fs s) = some η1 ∧ body η1 = some (.ok .next (E fs' s')) ∧ Fd (n + c) fs') → Fd n fs → n + c * us.length ≤ 1000 →
    ∃ fs' s', loopF gt body ((us.map Trm.d).map .sh) (E fs s) = some (.ok .next (E fs' s')) ∧ Fd (n + c * us.length) fs'
  | [], n, fs, s, _, hf, _ => ⟨fs, s, rfl, hf⟩
  | t :: us, n, fs, s, h, hf, hn => by
    rw [List.length_cons, Nat.mul_succ] at hn
    obtain ⟨η1, f1, s1, h1, h2, h3⟩ := h t List.mem_cons_self n fs s hf (by omega)
    obtain ⟨f2, s2, h4, h5⟩ := loop_fd E c us (n + c) f1 s1 (fun u hu => h u (List.mem_cons_of_mem _ hu)) h3 (by omega)
    refine ⟨f2, s2, ?_, by rw [List.length_cons, Nat.mul_succ, show n + (c * us.length + c) = n + c + c * us.length by omega]; exact h5⟩
    rw [List.map_cons, List.map_cons]
    simp only [loopF, h1, h2]
    exact h4
theorem one_mem {α : Type} {p : α → Prop} {a : α} (h : p a) : ∀ x ∈ [a], p x := fun x hx => by
  obtain rfl : x = a := by simpa using hx
  exact h
theorem two_mem {α : Type} {p : α → Prop} {a b : α} (h : p a) (h2 : p b) : ∀ x ∈ [a, b], p x := fun x hx => by
  rcases List.mem_cons.mp hx with rfl | hx
  · exact h
  · exact one_mem h2 x hx
theorem loopB {P N W K Y x8 x9 : Option Val} {ps us : List Trm} (hu : ∀ t ∈ us, Gd 0 t) (n : Nat) (fs : List Trm) (x7 : Option Val) (hf : Fd n fs) (hn : n + 3 * us.length ≤ 1000) :
    ∃ fs' x7', loopF (gNm 7) b__law_terms_3 ((us.map Trm.d).map .sh) (EV P N W K Y ps fs x7 x8 x9) = some (.ok .next (EV P N W K Y ps fs' x7' x8 x9)) ∧ Fd (n + 3 * us.length) fs' :=
  loop_fd (fun fs x7 => EV P N W K Y ps fs x7 x8 x9) 3 us n fs x7 (fun t ht n fs s hf hn => ⟨_, _, _, rfl, stepB P N W K Y ps fs t x8 x9 (by have := hf.2.1; omega),
    hf.app (fun s hs => (Gd.over (.inl rfl) (one_mem (hu t ht)) s hs).mono (by decide)) (by rw [over_len]; simp)⟩) hf hn
theorem loopC1 {P N W K Y x9 : Option Val} {ps us : List Trm} {s : Trm} (h0 : Gd 0 s) (hu : ∀ t ∈ us, Gd 0 t) (n : Nat) (fs : List Trm) (x8 : Option Val) (hf : Fd n fs) (hn : n + 4 * us.length ≤ 1000) :
    ∃ fs' x8', loopF (gNm 8) b__law_terms_4 ((us.map Trm.d).map .sh) (EV P N W K Y ps fs (some (.sh s.d)) x8 x9) = some (.ok .next (EV P N W K Y ps fs' (some (.sh s.d)) x8' x9)) ∧ Fd (n + 4 * us.length) fs' :=
  loop_fd (fun fs x8 => EV P N W K Y ps fs (some (.sh s.d)) x8 x9) 4 us n fs x8 (fun t ht n fs x hf hn => ⟨_, _, _, rfl, stepC P N W K Y ps fs s t x9 (by have := hf.2.1; omega),
    hf.app (fun u hs => (Gd.over (.inr rfl) (two_mem h0 (hu t ht)) u hs).mono (by decide)) (by rw [over_len]; simp)⟩) hf hn
theorem loopC2 {P N W K Y x9 : Option Val} {ps us vs : List Trm} (hu : ∀ t ∈ us, Gd 0 t) (hv : ∀ t ∈ vs, Gd 0 t) (hc : gSl (some 2) (some 5) (.lst (ps.map Trm.d)) = some (.ol ((vs.map Trm.d).map .sh))) (hl : vs.length = 3) (n : Nat) (fs : List Trm) (x : Option Val × Option Val) (hf : Fd n fs) (hn : n + 12 * us.length ≤ 900) :
    ∃ fs', ∃ x' : Option Val × Option Val, loopF (gNm 7) b__law_terms_5 ((us.map Trm.d).map .sh) (EV P N W K Y ps fs x.1 x.2 x9) = some (.ok .next (EV P N W K Y ps fs' x'.1 x'.2 x9)) ∧ Fd (n + 12 * us.length) fs' :=
  loop_fd (fun fs (x : Option Val × Option Val) => EV P N W K Y ps fs x.1 x.2 x9) 12 us n fs x (fun t ht n fs x hf hn => by
    obtain ⟨f2, y8, h1, h2⟩ := loopC1 (P := P) (N := N) (W := W) (K := K) (Y := Y) (x9 := x9) (ps := ps) (hu t ht) hv n fs x.2 hf (by omega)
    refine ⟨EV P N W K Y ps fs (some (.sh t.d)) x.2 x9, f2, (some (.sh t.d), y8), rfl, ?_, by simpa [hl] using h2⟩
    unfold EV at *
    generalize ps.map Trm.d = S at *
    generalize vs.map Trm.d = V at *
    generalize fs.map Trm.d = F at *
    generalize f2.map Trm.d = F2 at *
    generalize t.d = T at *
    exists [h1, hc], []) hf (by omega)
theorem loopD {P N W K Y x7 x8 : Option Val} {ps us : List Trm} {l : Trm} (h0 : Gd 0 l) (hu : ∀ t ∈ us, Gd 1 t) (hl : gSub2 (.lst (ps.map Trm.d)) (.int (-1)) = some (.sh l.d)) (n : Nat) (fs : List Trm) (x9 : Option Val) (hf : Fd n fs) (hn : n + 11 * us.length ≤ 900) :
    ∃ fs' x9', loopF (gNm 9) b__law_terms_6 ((us.map Trm.d).map .sh) (EV P N W K Y ps fs x7 x8 x9) = some (.ok .next (EV P N W K Y ps fs' x7 x8 x9')) ∧ Fd (n + 11 * us.length) fs' :=
  loop_fd (fun fs x9 => EV P N W K Y ps fs x7 x8 x9) 11 us n fs x9 (fun t ht n fs x hf hn => ⟨_, _, _, rfl, stepD P N W K Y ps fs l t x7 x8 (by have := hf.2.1; omega) hl,
    ((hf.app (m := n + 3) (fun u hs => Gd.over (.inl rfl) (one_mem (hu t ht)) u hs) (by rw [over_len]; simp)).app (m := n + 7) (fun u hs => Gd.over (.inr rfl) (two_mem (hu t ht) (h0.mono (by decide))) u hs) (by rw [over_len]; simp)).app
      (fun u hs => Gd.over (.inr rfl) (two_mem (h0.mono (by decide)) (hu t ht)) u hs) (by rw [over_len]; simp)⟩) hf (by omega)
theorem R_terms {k : Nat} {p : List Val} (hp : Pu k p) (hk : k < 2 ^ 48) : ∃ ts p', Pu (k + 19) p' ∧ Fd 200 ts ∧ F__law_terms [.ol p] = some (.ok (.sh (.lst (ts.map Trm.d))) [some (.ol p')]) := by
  obtain ⟨z, p1, q1, hz, h1⟩ := F_word hp (by omega)
  obtain ⟨es, p2, q2, pe, h2⟩ := F_shuffled q1 (ds := [.str "now", .str "rank", .str "first", .str "a", .str z]) (by simp) (by omega)
  obtain ⟨w, p3, q3, hw, h3⟩ := F_wait q2 (by simp; omega)
  have hl := pe.length_eq
  have hall : ∀ d ∈ es, ∃ x, d = .str x ∧ okName x = true := fun d hd => by
    have := pe.subset hd
    simp only [List.mem_cons, List.not_mem_nil, or_false] at this
    rcases this with rfl | rfl | rfl | rfl | rfl
    · exact ⟨_, rfl, by decide +kernel⟩
    · exact ⟨_, rfl, by decide +kernel⟩
    · exact ⟨_, rfl, by decide +kernel⟩
    · exact ⟨_, rfl, by decide +kernel⟩
    · exact ⟨_, rfl, hz⟩
  obtain ⟨a, b, c, d, e, rfl⟩ : ∃ a b c d e, es = [a, b, c, d, e] := by
    match es, hl with
    | [a, b, c, d, e], _ => exact ⟨a, b, c, d, e, rfl⟩
  obtain ⟨x, rfl, hx⟩ := hall a (by simp)
  obtain ⟨y, rfl, hy⟩ := hall b (by simp)
  have hA := loopA (some (.ol p3)) x y w
  have hps := partsT_ok hx hy hw
  have hov := R_over (ts := [.part false x 0, .part false x w]) (.inr rfl)
  have hpl : (partsT x y w).length = 8 := rfl
  generalize hps8 : partsT x y w = ps at *
  obtain ⟨f1, y7, hB, d1⟩ := loopB (P := some (.ol p3)) (N := some (.sh (.lst [.str x, .str y]))) (W := some (.sh (.lst [.int 0, .int w]))) (K := some (.sh (.str "now"))) (Y := some (.sh (.str y))) (x8 := none) (x9 := none) (ps := ps) hps 8 ps none ⟨fun t ht => (hps t ht).mono (by decide), by omega, by rintro rfl; simp at hpl⟩ (by omega)
  have hc3 : gSl none (some 3) (.lst (ps.map Trm.d)) = some (.ol (([.part false x 0, .part false x w, .part false y 0].map Trm.d).map .sh)) := by rw [← hps8]; rfl
  have hc25 : gSl (some 2) (some 5) (.lst (ps.map Trm.d)) = some (.ol (([.part false y 0, .part false y w, .part true x 0].map Trm.d).map .sh)) := by rw [← hps8]; rfl
  have hl8 : gSub2 (.lst (ps.map Trm.d)) (.int (-1)) = some (.sh (Trm.part true y w).d) := by rw [← hps8]; rfl
  have h00 : gSub2 (.lst (ps.map Trm.d)) (.int 0) = some (.sh (Trm.part false x 0).d) := by rw [← hps8]; rfl
  have h01 : gSub2 (.lst (ps.map Trm.d)) (.int 1) = some (.sh (Trm.part false x w).d) := by rw [← hps8]; rfl
  obtain ⟨f2, y78, hC, d2⟩ := loopC2 (P := some (.ol p3)) (N := some (.sh (.lst [.str x, .str y]))) (W := some (.sh (.lst [.int 0, .int w]))) (K := some (.sh (.str "now"))) (Y := some (.sh (.str y))) (x9 := none) (ps := ps)
    (us := [.part false x 0, .part false x w, .part false y 0]) (vs := [.part false y 0, .part false y w, .part true x 0])
    (fun t ht => hps t (by rw [← hps8]; simp only [partsT, List.mem_cons, List.not_mem_nil, or_false] at ht ⊢; rcases ht with rfl | rfl | rfl <;> simp))
    (fun t ht => hps t (by rw [← hps8]; simp only [partsT, List.mem_cons, List.not_mem_nil, or_false] at ht ⊢; rcases ht with rfl | rfl | rfl <;> simp)) hc25 rfl _ f1 (y7, none) d1 (by simp [hpl])
  obtain ⟨f3, y9, hD, d3⟩ := loopD (P := some (.ol p3)) (N := some (.sh (.lst [.str x, .str y]))) (W := some (.sh (.lst [.int 0, .int w]))) (K := some (.sh (.str "now"))) (Y := some (.sh (.str y))) (x7 := y78.1) (x8 := y78.2) (ps := ps)
    (us := over [.part false x 0, .part false x w]) (l := .part true y w) (Gd.part true hy hw) (Gd.over (.inr rfl) (two_mem (Gd.part false hx (by omega)) (Gd.part false hx hw))) hl8 _ f2 none d2 (by simp [hpl, over_len])
  refine ⟨f3, p3, by simpa using q3, ⟨d3.1, by have := d3.2.1; simp [hpl, over_len] at this; omega, d3.2.2⟩, ?_⟩
  unfold F__law_terms
  unfold EV at *
  simp only [List.map_cons, List.map_nil] at hov hC hc3
  clear hc25
  generalize hG : (over [.part false x 0, .part false x w]).map Trm.d = G at *
  generalize ps.map Trm.d = S at *
  generalize f1.map Trm.d = F1 at *
  generalize f2.map Trm.d = F2 at *
  generalize f3.map Trm.d = F3 at *
  generalize (Trm.part false x 0).d = T0 at *
  generalize (Trm.part false x w).d = T1 at *
  generalize (Trm.part false y 0).d = T2 at *
  exists [h1, h2, h3, cut_2 _ _ _ _ _, hA _ _ _ _ _ _, hB, hC, hD, hc3, hl8, h00, h01, hov], []
end L94
end
section
set_option Elab.async false
set_option linter.all false
set_option maxRecDepth 100000
set_option maxHeartbeats 1000000
namespace L94
open PySem PySem.Spec PyProof.Rows L2 Wp
abbrev KV := List (Str × (Trm × Nat))
abbrev valT (p : Trm × Nat) : D := .lst (List.replicate (p.2 + 1) p.1.d)
/-- one more term under a text -/
def put1 (R : KV) (x : Str) (t : Trm) : KV := match R.lookup x with
  | some (s, m) => R.map fun q => if q.1 = x then (x, (s, m + 1)) else q
  | none => R ++ [(x, (t, 0))]
structure KOk (n : Nat) (R : KV) : Prop where
  len : R.length ≤ n
  ok : ∀ q ∈ R, q.1 = tS q.2.1.tx ∧ Gd 2 q.2.1 ∧ q.2.2 < n
theorem any_kv' (R : KV) (x : Str) : (R.map fun p => (.inr p.1 : Key)).any (fun k => decide (k = .inr x)) = (R.lookup x).isSome := by
  induction R with
  | nil => rfl
  | cons q R ih =>
    obtain ⟨y, a⟩ := q
    rw [List.map_cons, List.any_cons, ih, List.lookup_cons]
    by_cases e : y = x
    · subst e
      simp
    · have h2 : (x == y) = false := by simpa using fun z => e z.symm
      rw [h2, decide_eq_false (fun z => e (Sum.inr.inj z))]
      rfl
theorem keys_put1 (R : KV) (x : Str) (t : Trm) : putKs (.inr x) (R.map fun p => .inr p.1) = (put1 R x t).map fun p => .inr p.1 := by
  unfold putKs put1
  rw [any_kv']
  cases e : R.lookup x with
  | none => simp
  | some p =>
    obtain ⟨s, m⟩ := p
    simp only [Option.isSome_some, if_true]
    rw [List.map_map]
    refine List.map_congr_left fun q _ => ?_
    by_cases e : q.1 = x
    · simp [e]
    · simp [e]
theorem put1_ok {n : Nat} {R : KV} (h : KOk n R) {t : Trm} (ht : Gd 2 t) : KOk (n + 1) (put1 R (tS t.tx) t) := by
  unfold put1
  cases e : R.lookup (tS t.tx) with
  | none =>
    refine ⟨by have := h.len; simp; omega, fun q hq => ?_⟩
    rcases List.mem_append.mp hq with hq | hq
    · exact ⟨(h.ok q hq).1, (h.ok q hq).2.1, by have := (h.ok q hq).2.2; omega⟩
    · obtain rfl : q = (tS t.tx, (t, 0)) := by simpa using hq
      exact ⟨rfl, ht, by simp⟩
  | some p =>
    obtain ⟨s, m⟩ := p
    refine ⟨by have := h.len; simp; omega, fun q hq => ?_⟩
    obtain ⟨q0, h0, rfl⟩ := List.mem_map.mp hq
    split
    · obtain ⟨a1, a2, a3⟩ := h.ok _ (kv_mem e)
      simp only at a1 a2 a3
      exact ⟨a1, a2, by simp only; omega⟩
    · exact ⟨(h.ok q0 h0).1, (h.ok q0 h0).2.1, by have := (h.ok q0 h0).2.2; omega⟩
theorem vals_put1 {n : Nat} {R : KV} (ok : KOk n R) {t : Trm} (ht : Gd 2 t) :
    ∃ l : List D, (dget (κ := Key) (.inr (tS t.tx)) (R.map fun p => .inr p.1) (R.map fun p => valT p.2)).getD (.lst []) = .lst l ∧ l.length ≤ n ∧ putVs (.inr (tS t.tx)) (.lst (l ++ [t.d])) (R.map fun p => .inr p.1) (R.map fun p => valT p.2) = (put1 R (tS t.tx) t).map fun p => valT p.2 := by
  rw [dget_kv]
  cases e : R.lookup (tS t.tx) with
  | none =>
    refine ⟨[], rfl, by simp, ?_⟩
    unfold putVs put1
    rw [any_kv', e]
    simp [valT]
  | some p =>
    obtain ⟨s, m⟩ := p
    have hm := kv_mem e
    obtain ⟨h1, h2, h3⟩ := ok.ok _ hm
    simp only at h1 h2 h3
    have hst : s.d = t.d := (tx_iff (h2.few (by decide)).1 (h2.few (by decide)).2 (ht.few (by decide)).1 (ht.few (by decide)).2).mp (tS_inj h1.symm)
    refine ⟨List.replicate (m + 1) s.d, rfl, by simp; omega, ?_⟩
    unfold putVs put1
    rw [any_kv', e]
    simp only [Option.isSome_some, if_true]
    rw [← hst, ← List.replicate_succ']
    generalize tS t.tx = x
    clear e hm h1 ok
    induction R with
    | nil => rfl
    | cons q R ih =>
      rw [List.map_cons, List.map_cons, putA, ih]
      rw [List.map_cons, List.map_cons]
      congr 1
      by_cases e : q.1 = x
      · rw [if_pos (by rw [e]), if_pos e]
      · rw [if_neg (fun z => e (Sum.inr.inj z)), if_neg e]
theorem fst_put1 (R : KV) (x : Str) (t : Trm) : (put1 R x t).map (·.1) = if (R.lookup x).isSome then R.map (·.1) else R.map (·.1) ++ [x] := by
  unfold put1
  cases e : R.lookup x with
  | none => simp
  | some p =>
    obtain ⟨s, m⟩ := p
    simp only [Option.isSome_some, if_true]
    rw [List.map_map]
    refine List.map_congr_left fun q _ => ?_
    by_cases e : q.1 = x
    · simp [e]
    · simp [e]
/-- the law's slots -/
abbrev EL (S P T : Option Val) (R : KV) (x5 x6 x7 x8 : Option Val) : Wp.Env := [S, P, some (.od (R.map fun p => .inr p.1) ((R.map fun p => valT p.2).map .sh)), T, some (.ol (((R.map (·.1)).map D.str).map .sh)), x5, x6, x7, x8]
theorem R_body {n : Nat} {R : KV} (ok : KOk n R) (hn : n ≤ 1000) {t : Trm} (ht : Gd 2 t) (S P T x6 x7 x8 : Option Val) :
    b_law_1 (EL S P T R (some (.sh t.d)) x6 x7 x8) = some (.ok .next (EL S P T (put1 R (tS t.tx) t) (some (.sh t.d)) (some (.sh (.str (tS t.tx)))) x7 x8)) := by
  obtain ⟨tf, t9⟩ := ht.few (by decide)
  have h1 := R_make t t9
  have h2 := R_Rtext t tf t9
  have h3 := R_ltt 40 t tf (by have := t9.dep; omega)
  have h4 := R_read t tf t9
  have h5 := R_Rterm t tf.fit
  obtain ⟨r, h6⟩ := Trm.repr tf (by have := ht.len; omega)
  obtain ⟨l, h7, h8, h9⟩ := vals_put1 ok ht
  have h10 := gIn_kv valT true R (tS t.tx)
  have hk := keys_put1 R (tS t.tx) t
  have hf := fst_put1 R (tS t.tx) t
  have ha : gAdd (.lst l) (.lst [t.d]) = some (.ol ((l ++ [t.d]).map .sh)) := gAdd_l (by rw [sizeLine_eq]; simp; omega)
  have z1 : (((R.map (·.1)).map D.str).map Val.sh).length < sizeLine := by rw [sizeLine_eq]; simp; have := ok.len; omega
  have z2 : (R.map fun p => (.inr p.1 : Key)).length < sizeLine := by rw [sizeLine_eq]; simp; have := ok.len; omega
  have no := no_term
  unfold kvD at h10
  simp only [if_true] at h10
  unfold EL
  rw [hf, ← hk, ← h9]
  rw [ru_obj] at *
  clear ok h9 hk hf
  generalize (R.map fun p => (.inr p.1 : Key)) = KS at *
  generalize (R.map fun p => valT p.2) = VS at *
  generalize (R.lookup (tS t.tx)).isSome = b at *
  generalize (R.map (·.1)) = us at *
  generalize tS t.tx = L at *
  generalize t.d = D0 at *
  generalize fsR = fs at *
  cases b with
  | true => exists [h1, h2, h3, h4, h5, h6, h7, h10, ha, z1, z2, gNeS_f rfl], [Opv.cls, Val.cls, no, Bool.not_true, Opv.isD, Val.isD]
  | false =>
    have e : (us ++ [L]).map D.str = us.map D.str ++ [.str L] := by simp
    simp only [Bool.false_eq_true, if_false]
    rw [e]
    exists [h1, h2, h3, h4, h5, h6, h7, h10, ha, z1, z2, gNeS_f rfl], [Opv.cls, Val.cls, no, Bool.not_false, Opv.isD, Val.isD, map_app1]
end L94
end
section
set_option Elab.async false
set_option linter.all false
set_option maxRecDepth 100000
set_option maxHeartbeats 1000000
namespace L94
open PySem PySem.Spec PyProof.Rows L2 Wp
theorem loopR (S P T x7 x8 : Option Val) : ∀ (us : List Trm) (n : Nat) (R : KV) (x5 x6 : Option Val), KOk n R → n + us.length ≤ 1000 → (∀ t ∈ us, Gd 2 t) →
    ∃ R' x5' x6', KOk (n + us.length) R' ∧ loopF (gNm 5) b_law_1 ((us.map Trm.d).map .sh) (EL S P T R x5 x6 x7 x8) = some (.ok .next (EL S P T R' x5' x6' x7 x8))
  | [], n, R, x5, x6, h, _, _ => ⟨R, x5, x6, h, rfl⟩
  | t :: us, n, R, x5, x6, h, hn, hu => by
    rw [List.length_cons] at hn
    have h1 := R_body h (by omega) (hu t List.mem_cons_self) S P T x6 x7 x8
    obtain ⟨R', y5, y6, h2, h3⟩ := loopR S P T x7 x8 us (n + 1) (put1 R (tS t.tx) t) (some (.sh t.d)) (some (.sh (.str (tS t.tx)))) (put1_ok h (hu t List.mem_cons_self)) (by omega) (fun s hs => hu s (List.mem_cons_of_mem _ hs))
    refine ⟨R', y5, y6, by rw [List.length_cons, show n + (us.length + 1) = n + 1 + us.length by omega]; exact h2, ?_⟩
    rw [List.map_cons, List.map_cons]
    have h0 : gNm 5 (.sh t.d) (EL S P T R x5 x6 x7 x8) = some (EL S P T R (some (.sh t.d)) x6 x7 x8) := rfl
    simp only [loopF, h0, h1]
    exact h3
theorem mem_look {R : KV} {x : Str} (h : x ∈ R.map (·.1)) : ∃ p, R.lookup x = some p := by
  induction R with
  | nil => simp at h
  | cons q R ih =>
    obtain ⟨y, a⟩ := q
    rw [List.lookup_cons]
    by_cases e : x = y
    · subst e
      simp
    · have h2 : (x == y) = false := by simpa using e
      rw [h2]
      exact ih (by simpa [e] using h)
theorem R_comp1 {n : Nat} {R : KV} (ok : KOk n R) (hn : n ≤ 1000) {d : D} (hd : d ∈ (R.map (·.1)).map D.str) (S P T U x5 x7 x8 : Option Val) :
    c_law_1 [S, P, some (.od (R.map fun p => .inr p.1) ((R.map fun p => valT p.2).map .sh)), T, U, x5, some (.sh d), x7, x8] =
      some (.ok (.pend (.ol [])) [S, P, some (.od (R.map fun p => .inr p.1) ((R.map fun p => valT p.2).map .sh)), T, U, none, some (.sh d), x7, x8]) := by
  obtain ⟨x, hx, rfl⟩ := List.mem_map.mp hd
  obtain ⟨⟨s, m⟩, hp⟩ := mem_look hx
  obtain ⟨a1, a2, a3⟩ := ok.ok _ (kv_mem hp)
  simp only at a2 a3
  have h1 := gSub2_kv (f := valT) hp
  unfold kvD at h1
  have h2 : gSub2 (valT (s, m)) (.int 0) = some (.sh s.d) := by
    simp only [valT, List.replicate_succ, gSub2, gIx, atI_0]
    rfl
  obtain ⟨sf, s9⟩ := a2.few (by decide)
  have h3 : ∀ e ∈ List.replicate (m + 1) s.d, gNe e s.d = some (.sh (.bl false)) := fun e he => by
    obtain rfl := List.eq_of_mem_replicate he
    exact gNe_same (Trm.plain s9.ok) (by have := Trm.d_dp s; have := s9.dep; omega)
  have hz : (List.replicate (m + 1) s.d).length < sizeLine := by rw [sizeLine_eq, List.length_replicate]; omega
  simp only [valT] at h1 h2
  clear hx hd hp ok
  generalize (R.map fun p => (.inr p.1 : Key)) = KS at *
  generalize (R.map fun p => D.lst (List.replicate (p.2.2 + 1) p.2.1.d)) = VS at *
  generalize List.replicate (m + 1) s.d = L at *
  generalize s.d = D0 at *
  unfold c_law_1
  refine Eq.trans (b := some (.ok (.pend (.ol ((L.filter fun _ => false).map Val.sh))) [S, P, some (.od KS (VS.map .sh)), T, U, none, some (.sh (.str x)), x7, x8])) ?_ (by rw [filter_ff]; rfl)
  exists [h1, h2, hz, h3 _ (by assumption)], [], 0
end L94
end
section
set_option Elab.async false
set_option linter.all false
set_option maxRecDepth 100000
set_option maxHeartbeats 1000000
namespace L94
open PySem PySem.Spec PyProof.Rows L2 Wp
abbrev ctU : FT := (fBl (Wp.f2 c_law_1 (fDisp .ol fNil) (Wp.p2 gNe)))
theorem skip_all {n : Nat} {R : KV} (ok : KOk n R) (hn : n ≤ 1000) (S P T U x7 x8 : Option Val) : ∀ (ds : List D) (x5 : Option Val), (∀ d ∈ ds, d ∈ (R.map (·.1)).map D.str) →
    ∃ y5, loopC 9 [6] (gNm 6) ctU (fVar 6) (ds.map .sh) [] [S, P, some (.od (R.map fun p => .inr p.1) ((R.map fun p => valT p.2).map .sh)), T, U, x5, none, x7, x8] =
      some (.ok (.pend (.ol [])) [S, P, some (.od (R.map fun p => .inr p.1) ((R.map fun p => valT p.2).map .sh)), T, U, y5, none, x7, x8])
  | [], x5, _ => ⟨x5, rfl⟩
  | d :: ds, x5, hd => by
    have h1 := fun x5 => R_comp1 ok hn (hd d List.mem_cons_self) S P T U x5 x7 x8
    have h2 : ctU [S, P, some (.od (R.map fun p => .inr p.1) ((R.map fun p => valT p.2).map .sh)), T, U, x5, some (.sh d), x7, x8] = some (.ok false [S, P, some (.od (R.map fun p => .inr p.1) ((R.map fun p => valT p.2).map .sh)), T, U, none, some (.sh d), x7, x8]) := by
      unfold ctU
      generalize (R.map fun p => (.inr p.1 : Key)) = KS at *
      generalize (R.map fun p => valT p.2) = VS at *
      exists [h1 _, gNe_nil], []
    obtain ⟨y5, h3⟩ := skip_all ok hn S P T U x7 x8 ds none (fun e he => hd e (List.mem_cons_of_mem _ he))
    refine ⟨y5, ?_⟩
    rw [List.map_cons]
    generalize (R.map fun p => (.inr p.1 : Key)) = KS at *
    generalize (R.map fun p => valT p.2) = VS at *
    exact lc_cons (b := false) ⟨rfl⟩ ⟨rfl⟩ h2 (lc_skip ⟨rfl⟩ h3)
theorem R_comp2 {n : Nat} {R : KV} (ok : KOk n R) (hn : n ≤ 1000) (S P T x5 x6 x7 x8 : Option Val) :
    ∃ y5, c_law_2 (EL S P T R x5 x6 x7 x8) = some (.ok (.pend (.ol [])) [S, P, some (.od (R.map fun p => .inr p.1) ((R.map fun p => valT p.2).map .sh)), T, some (.sh (.lst ((R.map (·.1)).map D.str))), y5, none, x7, x8]) := by
  have hz : ((R.map (·.1)).map D.str).length < sizeLine := by rw [sizeLine_eq]; simp; have := ok.len; omega
  obtain ⟨y5, h⟩ := skip_all ok hn S P T (some (.sh (.lst ((R.map (·.1)).map D.str)))) x7 x8 ((R.map (·.1)).map D.str) x5 (fun d h => h)
  refine ⟨y5, ?_⟩
  have h' : loopC 9 [6] (gNm 6) ctU (fVar 6) (((R.map (·.1)).map D.str).map .sh) [] (wipeE [S, P, some (.od (R.map fun p => .inr p.1) ((R.map fun p => valT p.2).map .sh)), T, some (.sh (.lst ((R.map (·.1)).map D.str))), x5, x6, x7, x8] [6]) = _ := h
  unfold c_law_2 EL
  generalize (R.map fun p => (.inr p.1 : Key)) = KS at *
  generalize (R.map fun p => valT p.2) = VS at *
  generalize (R.map (·.1)).map D.str = US at *
  refine e_lc (ys := US.map .sh) (η1 := [S, P, some (.od KS (VS.map .sh)), T, some (.sh (.lst US)), x5, x6, x7, x8]) ?_ ⟨rfl⟩ ⟨rfl⟩ h'
  exists [], []
theorem neB (v : Bool) : gNe (.bl v) (.bl v) = some (.sh (.bl false)) := by cases v <;> rfl
theorem R_purse {p : List Val} (hp : Pu 0 p) (S x2 x3 x4 x5 x6 x7 x8 : Option Val) :
    ∃ y1 y2 y3 y4 y5 y6 y7 y8, b_law_2 [S, some (.ol p), x2, x3, x4, x5, x6, x7, x8] = some (.ok .next [S, y1, y2, y3, y4, y5, y6, y7, y8]) := by
  obtain ⟨ts, p1, q1, hf, h1⟩ := R_terms hp (by decide)
  obtain ⟨R, y5, y6, ok, h2⟩ := loopR S (some (.ol p1)) (some (.sh (.lst (ts.map Trm.d)))) x7 x8 ts 0 [] x5 x6 ⟨by simp, fun q hq => nomatch hq⟩ (by have := hf.2.1; omega) hf.1
  obtain ⟨z5, h3⟩ := R_comp2 ok (by have := hf.2.1; omega) S (some (.ol p1)) (some (.sh (.lst (ts.map Trm.d)))) y5 y6 x7 x8
  obtain ⟨da, p2, q2, ma, h4⟩ := F_one_of q1 (ds := ts.map Trm.d) (by simpa using hf.2.2) (by have := hf.2.1; simp; omega) (by decide)
  obtain ⟨db, p3, q3, mb, h5⟩ := F_one_of q2 (ds := ts.map Trm.d) (by simpa using hf.2.2) (by have := hf.2.1; simp; omega) (by decide)
  obtain ⟨a, ha, rfl⟩ := List.mem_map.mp ma
  obtain ⟨b, hb, rfl⟩ := List.mem_map.mp mb
  obtain ⟨af, a9⟩ := (hf.1 a ha).few (by decide)
  obtain ⟨bf, b9⟩ := (hf.1 b hb).few (by decide)
  have k1 := R_make a a9
  have k2 := R_make b b9
  have ta := R_Rtext a af a9
  have tb := R_Rtext b bf b9
  have he := R_ruleEqB a b af.fit bf.fit (v := decide (a.tx = b.tx)) (by rw [decide_eq_true_eq]; exact tx_iff af a9 bf b9)
  have ge := gEq_tS a.tx b.tx
  have hd : gDict (.lst []) = some (.od [] []) := rfl
  have hn := neB (decide (a.tx = b.tx))
  simp only [ru_obj] at *
  unfold b_law_2
  clear q1 q2 q3 hf ok ma mb ha hb af a9 bf b9
  unfold EL at *
  simp only [List.map_nil] at h2
  generalize decide (a.tx = b.tx) = v at *
  generalize (R.map fun p => (.inr p.1 : Key)) = KS at *
  generalize (R.map fun p => valT p.2) = VS at *
  generalize (R.map (·.1)).map D.str = US at *
  generalize ts.map Trm.d = TS at *
  generalize tS a.tx = A at *
  generalize tS b.tx = B at *
  generalize a.d = C at *
  generalize b.d = D0 at *
  exact ⟨_, _, _, _, _, _, _, _, by exists [h1, h2, h3, h4, h5, k1, k2, ta, tb, he, ge, hd, hn, gNe_nil], [Opv.cls, Val.cls, eqT, i_Rule_eq]⟩
end L94
end
section
set_option Elab.async false
set_option linter.all false
set_option maxRecDepth 100000
set_option maxHeartbeats 1000000
namespace L94
open PySem PySem.Spec PyProof.Rows L2 Wp
theorem pow_18 : gPow (.int 10) (.int 18) = some (.sh (.int 1000000000000000000)) := pow_of (by decide +kernel) (by decide +kernel)
theorem pow_60 : gPow (.int 10) (.int 60) = some (.sh (.int (10 ^ 60))) := pow_of (by decide +kernel) (by decide +kernel)
theorem pow_480 : gPow (.int (10 ^ 60)) (.int 8) = some (.sh (.int ((10 ^ 60) ^ 8))) := pow_of (by decide +kernel) (by decide +kernel)
theorem sum_one (ns : List Int) (k : Nat) : ∃ zs : List Int, gSl (some (k : Int)) (some ((k : Int) + 1)) (.lst (ns.map .int)) = some (.ol ((zs.map D.int).map .sh)) := by
  refine ⟨(ns.drop (HT.sIx ns.length 0 (some (k : Int)))).take (HT.sIx ns.length ns.length (some ((k : Int) + 1)) - HT.sIx ns.length 0 (some (k : Int))), ?_⟩
  simp only [gSl]
  unfold Wp.cutD
  rw [← List.map_drop, ← List.map_take, List.length_map]
theorem sum_val (zs : List Int) : gSum (.lst (zs.map D.int)) = some (.sh (.int zs.sum)) := by
  simp only [gSum, intsOf_map, Option.map_some]
theorem F_purse (ns : List Int) (k : Nat) (hk : k < 2 ^ 20) : ∃ p, Pu 0 p ∧ F__law_purse [.sh (.lst (ns.map .int)), .sh (.int k)] = some (.ok (.ol p) [some (.sh (.lst (ns.map .int))), some (.sh (.int k))]) := by
  obtain ⟨zs, h1⟩ := sum_one ns k
  have h2 := sum_val zs
  generalize zs.sum = s at h2
  have hm : gMod (.int (max (s - 1000000000000000000) 0)) (.int ((10 ^ 60) ^ 8)) = some (.sh (.int ((max (s - 1000000000000000000) 0).fmod ((10 ^ 60) ^ 8)))) := by
    simp only [gMod]
    rw [if_neg (by decide +kernel)]
  have hm2 : gMod (.int s) (.int 2147483629) = some (.sh (.int (s.fmod 2147483629))) := by
    simp only [gMod]
    rw [if_neg (by decide +kernel)]
  refine ⟨[.sh (.int ((max (s - 1000000000000000000) 0).fmod ((10 ^ 60) ^ 8))), .sh (.int (s.fmod 2147483629)), .sh (.int 0), .sh (.int k)], ⟨_, _, _, _, rfl, Int.fmod_nonneg_of_pos _ (by decide +kernel), by decide, by decide, by omega, by omega⟩, ?_⟩
  generalize (max (s - 1000000000000000000) 0).fmod ((10 ^ 60) ^ 8) = A at *
  generalize s.fmod 2147483629 = B at *
  unfold F__law_purse
  exists [h1, h2, pow_18, pow_60, pow_480, hm, hm2], []
theorem F_purses (ns : List Int) (few : Nat) (hf : few < 2 ^ 10) : ∃ ps : List (List Val), (∀ p ∈ ps, Pu 0 p) ∧ F__law_purses [.sh (.lst (ns.map .int)), .sh (.int few)] = some (.ok (.ol (ps.map Val.ol)) [some (.sh (.lst (ns.map .int))), some (.sh (.int few))]) := by
  obtain ⟨m, hm, hm3⟩ : ∃ m : Nat, max (1 : Int) (min (few : Int) ns.length) = m ∧ m < 2 ^ 11 := ⟨(max (1 : Int) (min (few : Int) ns.length)).toNat, by omega, by omega⟩
  have hmx : gMx2 (.int 1) (.int (min (few : Int) ns.length)) = some (.sh (.int m)) := by
    simp only [gMx2, hm]
  have hs : small62 (m : Int) = true := small62_of (by omega) (by omega)
  obtain ⟨acc', η', hc, ps, rfl, rfl, hp, _⟩ := lc_cnt (n := 3) (vs := [2]) (it := (fRng1 (fCons (fn (fCons (fLit (.int 1)) (fCons (fn (fCons (fVar 1) (fCons (fn (fCons (fVar 0) fNil) (Wp.p1 gLen)) fNil)) (Wp.p2 gMn2)) fNil)) (Wp.p2 gMx2)) fNil))) (gt := gNm 2) (ft := fYes) (fe := (fCallN i__law_purse 2 (fCons (fVar 0) (fCons (fVar 2) fNil))))
    (ys := rngV 0 (m : Int).toNat) (η := [some (.sh (.lst (ns.map .int))), some (.sh (.int few)), none]) (η1 := [some (.sh (.lst (ns.map .int))), some (.sh (.int few)), none])
    (fun i acc η => ∃ (ps : List (List Val)), acc = ps.map Val.ol ∧ η = [some (.sh (.lst (ns.map .int))), some (.sh (.int few)), none] ∧ (∀ p ∈ ps, Pu 0 p) ∧ ps.length = i)
    (by exists [hmx, hs], []) rfl (by rw [sizeLine_eq, rngV_len]; omega) ⟨[], rfl, rfl, by simp, rfl⟩ (by
      rintro i y acc η hy ⟨ps, rfl, rfl, hp, lp⟩
      have hi : i < m := by
        have := (List.getElem?_eq_some_iff.mp hy).1
        rwa [rngV_len, Int.toNat_natCast] at this
      unfold rngV at hy
      rw [List.getElem?_map, Option.map_eq_some_iff] at hy
      obtain ⟨j, hj, rfl⟩ := hy
      have hji : j = i := by
        rw [List.getElem?_range (by rw [Int.toNat_natCast]; exact hi)] at hj
        exact (Option.some.inj hj).symm
      subst hji
      rw [Int.zero_add]
      obtain ⟨p, q, h1⟩ := F_purse ns j (by omega)
      refine ⟨[some (.sh (.lst (ns.map .int))), some (.sh (.int few)), some (.sh (.int j))], _, [some (.sh (.lst (ns.map .int))), some (.sh (.int few)), some (.sh (.int j))], _, .pend (.ol p), .ol p, rfl, rfl, rfl, ?_, rfl, ps ++ [p], by simp, rfl, fun p' hp' => ?_, by simp [lp]⟩
      · exists [h1], []
      · rcases List.mem_append.mp hp' with z | z
        · exact hp p' z
        · obtain rfl : p' = p := by simpa using z
          exact q)
  refine ⟨ps, hp, ?_⟩
  unfold F__law_purses
  exists [hc], []
end L94
end
section
set_option Elab.async false
set_option linter.all false
set_option maxRecDepth 100000
set_option maxHeartbeats 1000000
namespace L94
open PySem PySem.Spec PyProof.Rows L2 Wp
theorem loopP (S : Option Val) : ∀ (ps : List (List Val)) (x1 x2 x3 x4 x5 x6 x7 x8 : Option Val), (∀ p ∈ ps, Pu 0 p) → ∃ y1 y2 y3 y4 y5 y6 y7 y8, loopF (gNm 1) b_law_2 (ps.map Val.ol) [S, x1, x2, x3, x4, x5, x6, x7, x8] = some (.ok .next [S, y1, y2, y3, y4, y5, y6, y7, y8])
  | [], _, _, _, _, _, _, _, _, _ => ⟨_, _, _, _, _, _, _, _, rfl⟩
  | p :: ps, x1, x2, x3, x4, x5, x6, x7, x8, h => by
    obtain ⟨y1, y2, y3, y4, y5, y6, y7, y8, h1⟩ := R_purse (h p List.mem_cons_self) S x2 x3 x4 x5 x6 x7 x8
    obtain ⟨z1, z2, z3, z4, z5, z6, z7, z8, h2⟩ := loopP S ps y1 y2 y3 y4 y5 y6 y7 y8 fun q hq => h q (List.mem_cons_of_mem _ hq)
    refine ⟨z1, z2, z3, z4, z5, z6, z7, z8, ?_⟩
    have h0 : gNm 1 (.ol p) [S, x1, x2, x3, x4, x5, x6, x7, x8] = some [S, some (.ol p), x2, x3, x4, x5, x6, x7, x8] := rfl
    rw [List.map_cons]
    simp only [loopF, h0, h1]
    exact h2
theorem F_lawT (ns : List Int) : ∃ θ, F_law [.sh (.lst (ns.map .int))] = some (.ok (.sh (.bl true)) θ) := by
  obtain ⟨ps, hp, h1⟩ := F_purses ns 2 (by decide)
  obtain ⟨y1, y2, y3, y4, y5, y6, y7, y8, h2⟩ := loopP (some (.sh (.lst (ns.map .int)))) ps none none none none none none none none hp
  refine ⟨[some (.sh (.lst (ns.map .int)))], ?_⟩
  unfold F_law
  have h1' : F__law_purses [.sh (.lst (ns.map .int)), .sh (.int 2)] = _ := h1
  clear h1
  generalize ns.map D.int = N at *
  exists [h1', h2], []
end L94
end
section
theorem PySem.Challenge.cw_whosepace_k94_whole_texts_of_all_small_t_holds : PySem.Challenge.rw_whosepace_k94_whole_texts_of_all_small_t.Holds :=
  L94.holds_of fun ns _ => L94.F_lawT ns
end
