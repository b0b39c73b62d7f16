import PyProof.Rows.All
import Wide.All
import OpenK.AllK
import Wide.FinOn
import HandS.ForMost
import HandS.IsInst
import HandS.TupAny
import HandS.Deep
import HandS.Zip
import HandS.Rev
import PySem.Challenge.RW_turnround_k38_comes_in_just_so_many
set_option Elab.async false
set_option linter.all false
section PwA
set_option maxRecDepth 100000
/-! PwA: trees of values with owners; what they stand for in the abstract heap; steps of heaps. -/
namespace PW
open PySem PySem.Spec L2
open PyProof.Rows hiding St

/-- data: never changed again (a list among it: one that nobody will change) -/
abbrev D := PyData

/-- trees: data, or owned containers -/
inductive T where
  | d (x : D) | ls (xs : List D) | lt (xs : List T) | dk (kvs : List (Key × T)) | tp (xs : List T)

/-- a list that nobody will change: locked, or written -/
def SqZ (K : PySem.W.Frag) (H : Hp) (a : Addr) (xs : List V) : Prop :=
  (∃ o, H a = some (.frz o (.lst xs))) ∨
    ∃ (o : Obj) (its : Array Value) (n : Nat), K.lookup a = some o ∧ o.cls = .type "list" ∧ o.dict = none ∧ o.data = .seq its n ∧ its.size ≤ sizeLine ∧ Vals xs its.toList
theorem SqZ.l {K : PySem.W.Frag} {H : Hp} {a : Addr} {xs : List V} (h : SqZ K H a xs) : SqL K H a xs := by
  rcases h with ⟨o, h⟩ | h
  · exact .inl (.inr ⟨o, h⟩)
  · exact .inr h

mutual
def RepD (K : PySem.W.Frag) (H : Hp) : D → V → Prop
  | .none, v => v = .non
  | .bool b, v => v = .bl b
  | .int i, v => v = .int i
  | .str s, v => v = .str s
  | .tuple xs, v => ∃ a vs, v = .ref a ∧ SqT K H a vs ∧ RepDs K H xs vs
  | .list xs, v => ∃ a vs, v = .ref a ∧ SqZ K H a vs ∧ RepDs K H xs vs
  | .dict _, _ => False
def RepDs (K : PySem.W.Frag) (H : Hp) : List D → List V → Prop
  | [], vs => vs = []
  | x :: xs, vs => ∃ v r, vs = v :: r ∧ RepD K H x v ∧ RepDs K H xs r
end
mutual
def RepT (K : PySem.W.Frag) (H : Hp) : T → V → List Addr → Prop
  | .d x, v, ws => RepD K H x v ∧ ws = []
  | .ls xs, v, ws => ∃ a vs, v = .ref a ∧ H a = some (.lst vs) ∧ RepDs K H xs vs ∧ ws = [a]
  | .lt ts, v, ws => ∃ a vs w, v = .ref a ∧ H a = some (.lst vs) ∧ RepTs K H ts vs w ∧ ws = a :: w
  | .dk kts, v, ws => ∃ a kvs w, v = .ref a ∧ H a = some (.dK kvs) ∧ RepKs K H kts kvs w ∧ ws = a :: w
  | .tp ts, v, ws => ∃ a vs, v = .ref a ∧ SqT K H a vs ∧ RepTs K H ts vs ws
def RepTs (K : PySem.W.Frag) (H : Hp) : List T → List V → List Addr → Prop
  | [], vs, ws => vs = [] ∧ ws = []
  | t :: ts, vs, ws => ∃ v r w1 w2, vs = v :: r ∧ RepT K H t v w1 ∧ RepTs K H ts r w2 ∧ ws = w1 ++ w2
def RepKs (K : PySem.W.Frag) (H : Hp) : List (Key × T) → List (Key × V) → List Addr → Prop
  | [], vs, ws => vs = [] ∧ ws = []
  | (k, t) :: ts, vs, ws => ∃ v r w1 w2, vs = (k, v) :: r ∧ RepT K H t v w1 ∧ RepKs K H ts r w2 ∧ ws = w1 ++ w2
end

/-- what may be changed and is owned -/
def MutO (H : Hp) (b : Addr) : Prop := (∃ xs, H b = some (.lst xs)) ∨ (∃ kvs, H b = some (.dK kvs))
theorem MutO.there {H : Hp} {b : Addr} (m : MutO H b) : ∃ o, H b = some o := by
  rcases m with ⟨xs, h⟩ | ⟨xs, h⟩ <;> exact ⟨_, h⟩
theorem MutO.ntup {H : Hp} {b : Addr} (m : MutO H b) {xs : List V} : H b ≠ some (.tup xs) := by
  intro h; rcases m with ⟨ys, e⟩ | ⟨ys, e⟩ <;> (rw [h] at e; cases e)
theorem MutO.nfrz {H : Hp} {b : Addr} (m : MutO H b) {o : Obj} {u : HO} : H b ≠ some (.frz o u) := by
  intro h; rcases m with ⟨ys, e⟩ | ⟨ys, e⟩ <;> (rw [h] at e; cases e)

/-- from H to H', where W was owned ahead and W' is owned behind -/
structure Step (W W' : List Addr) (H H' : Hp) : Prop where
  keep : ∀ b o, H b = some o → b ∉ W → H' b = some o
  new : ∀ b ∈ W', b ∈ W ∨ H b = none
theorem Step.refl (W : List Addr) (H : Hp) : Step W W H H := ⟨fun _ _ h _ => h, fun _ h => .inl h⟩
theorem Step.trans {W W1 W2 ws : List Addr} {H H1 H2 : Hp} (a : Step W (ws ++ W1) H H1) (b : Step W1 W2 H1 H2) (nd : (ws ++ W1).Nodup) : Step W (ws ++ W2) H H2 where
  keep := fun c o h hc => by
    have h1 := a.keep c o h hc
    refine b.keep c o h1 fun hc1 => ?_
    rcases a.new c (List.mem_append_right _ hc1) with z | z
    · exact hc z
    · rw [h] at z; cases z
  new := fun c hc => by
    rcases List.mem_append.mp hc with z | z
    · exact a.new c (List.mem_append_left _ z)
    · rcases b.new c z with z | z
      · exact a.new c (List.mem_append_right _ z)
      · by_cases hw : c ∈ W
        · exact .inl hw
        · refine .inr ?_
          cases q : H c with
          | none => rfl
          | some o => rw [a.keep c o q hw] at z; cases z
/-- what is kept under a step -/
structure Kept (W : List Addr) (H H' : Hp) : Prop where
  keep : ∀ b o, H b = some o → b ∉ W → H' b = some o
  mu : ∀ b ∈ W, MutO H b
theorem Kept.same {H H' : Hp} (h : Same H H') : Kept [] H H' := ⟨fun b o e _ => h b o e, fun _ h => by simp at h⟩
section
variable {K : PySem.W.Frag} {W : List Addr} {H H' : Hp}
theorem Kept.sqT (k : Kept W H H') {a : Addr} {xs : List V} (h : SqT K H a xs) : SqT K H' a xs := by
  rcases h with (h | ⟨o, h⟩) | h
  · exact .inl (.inl (k.keep _ _ h fun z => (k.mu a z).ntup h))
  · exact .inl (.inr ⟨o, k.keep _ _ h fun z => (k.mu a z).nfrz h⟩)
  · exact .inr h
theorem Kept.sqZ (k : Kept W H H') {a : Addr} {xs : List V} (h : SqZ K H a xs) : SqZ K H' a xs := by
  rcases h with ⟨o, h⟩ | h
  · exact .inl ⟨o, k.keep _ _ h fun z => (k.mu a z).nfrz h⟩
  · exact .inr h
mutual
theorem RepD.keep (k : Kept W H H') : ∀ {x : D} {v : V}, RepD K H x v → RepD K H' x v
  | .none, _, h => h
  | .bool _, _, h => h
  | .int _, _, h => h
  | .str _, _, h => h
  | .tuple _, _, ⟨a, vs, e, s, r⟩ => ⟨a, vs, e, k.sqT s, RepDs.keep k r⟩
  | .list _, _, ⟨a, vs, e, s, r⟩ => ⟨a, vs, e, k.sqZ s, RepDs.keep k r⟩
  | .dict _, _, h => h
theorem RepDs.keep (k : Kept W H H') : ∀ {xs : List D} {vs : List V}, RepDs K H xs vs → RepDs K H' xs vs
  | [], _, h => h
  | _ :: _, _, ⟨v, r, e, h, t⟩ => ⟨v, r, e, RepD.keep k h, RepDs.keep k t⟩
end
mutual
theorem RepT.keep (k : Kept W H H') : ∀ {t : T} {v : V} {ws : List Addr}, RepT K H t v ws → (∀ b ∈ ws, b ∉ W) → RepT K H' t v ws
  | .d _, _, _, ⟨h, e⟩, _ => ⟨h.keep k, e⟩
  | .ls _, _, _, ⟨a, vs, e, h, r, ew⟩, hw => ⟨a, vs, e, k.keep _ _ h (hw a (by rw [ew]; simp)), r.keep k, ew⟩
  | .lt _, _, _, ⟨a, vs, w, e, h, r, ew⟩, hw => ⟨a, vs, w, e, k.keep _ _ h (hw a (by rw [ew]; simp)), RepTs.keep k r fun b hb => hw b (by rw [ew]; exact List.mem_cons_of_mem _ hb), ew⟩
  | .dk _, _, _, ⟨a, vs, w, e, h, r, ew⟩, hw => ⟨a, vs, w, e, k.keep _ _ h (hw a (by rw [ew]; simp)), RepKs.keep k r fun b hb => hw b (by rw [ew]; exact List.mem_cons_of_mem _ hb), ew⟩
  | .tp _, _, _, ⟨a, vs, e, s, r⟩, hw => ⟨a, vs, e, k.sqT s, RepTs.keep k r hw⟩
theorem RepTs.keep (k : Kept W H H') : ∀ {ts : List T} {vs : List V} {ws : List Addr}, RepTs K H ts vs ws → (∀ b ∈ ws, b ∉ W) → RepTs K H' ts vs ws
  | [], _, _, h, _ => h
  | _ :: _, _, _, ⟨v, r, w1, w2, e, h, t, ew⟩, hw => ⟨v, r, w1, w2, e, RepT.keep k h fun b hb => hw b (by rw [ew]; exact List.mem_append_left _ hb), RepTs.keep k t fun b hb => hw b (by rw [ew]; exact List.mem_append_right _ hb), ew⟩
theorem RepKs.keep (k : Kept W H H') : ∀ {ts : List (Key × T)} {vs : List (Key × V)} {ws : List Addr}, RepKs K H ts vs ws → (∀ b ∈ ws, b ∉ W) → RepKs K H' ts vs ws
  | [], _, _, h, _ => h
  | (_, _) :: _, _, _, ⟨v, r, w1, w2, e, h, t, ew⟩, hw => ⟨v, r, w1, w2, e, RepT.keep k h fun b hb => hw b (by rw [ew]; exact List.mem_append_left _ hb), RepKs.keep k t fun b hb => hw b (by rw [ew]; exact List.mem_append_right _ hb), ew⟩
end
mutual
theorem RepT.mut : ∀ {t : T} {v : V} {ws : List Addr}, RepT K H t v ws → ∀ b ∈ ws, MutO H b
  | .d _, _, _, ⟨_, e⟩, b, hb => by rw [e] at hb; simp at hb
  | .ls _, _, _, ⟨a, vs, e, h, r, ew⟩, b, hb => by
    rw [ew] at hb; have : b = a := by simpa using hb
    subst this; exact .inl ⟨_, h⟩
  | .lt _, _, _, ⟨a, vs, w, e, h, r, ew⟩, b, hb => by
    rw [ew] at hb
    rcases List.mem_cons.mp hb with z | z
    · subst z; exact .inl ⟨_, h⟩
    · exact RepTs.mut r b z
  | .dk _, _, _, ⟨a, vs, w, e, h, r, ew⟩, b, hb => by
    rw [ew] at hb
    rcases List.mem_cons.mp hb with z | z
    · subst z; exact .inr ⟨_, h⟩
    · exact RepKs.mut r b z
  | .tp _, _, _, ⟨a, vs, e, s, r⟩, b, hb => RepTs.mut r b hb
theorem RepTs.mut : ∀ {ts : List T} {vs : List V} {ws : List Addr}, RepTs K H ts vs ws → ∀ b ∈ ws, MutO H b
  | [], _, _, ⟨_, e⟩, b, hb => by rw [e] at hb; simp at hb
  | _ :: _, _, _, ⟨v, r, w1, w2, e, h, t, ew⟩, b, hb => by
    rw [ew] at hb
    exact (List.mem_append.mp hb).elim (RepT.mut h b) (RepTs.mut t b)
theorem RepKs.mut : ∀ {ts : List (Key × T)} {vs : List (Key × V)} {ws : List Addr}, RepKs K H ts vs ws → ∀ b ∈ ws, MutO H b
  | [], _, _, ⟨_, e⟩, b, hb => by rw [e] at hb; simp at hb
  | (_, _) :: _, _, _, ⟨v, r, w1, w2, e, h, t, ew⟩, b, hb => by
    rw [ew] at hb
    exact (List.mem_append.mp hb).elim (RepT.mut h b) (RepKs.mut t b)
end

theorem RepDs.length : ∀ {xs : List D} {vs : List V}, RepDs K H xs vs → vs.length = xs.length
  | [], _, h => by have h : _ = [] := h; rw [h]; rfl
  | _ :: _, _, ⟨v, r, e, h, t⟩ => by rw [e, List.length_cons, List.length_cons, RepDs.length t]
theorem RepDs.get : ∀ {xs : List D} {vs : List V} {i : Nat} {x : D}, RepDs K H xs vs → xs[i]? = some x → ∃ v, vs[i]? = some v ∧ RepD K H x v
  | [], _, _, _, _, e => by simp at e
  | y :: ys, _, 0, x, ⟨v, r, e, h, t⟩, q => by
    have q : y = x := by simpa using q
    subst q; exact ⟨v, by rw [e]; rfl, h⟩
  | y :: ys, _, i + 1, x, ⟨v, r, e, h, t⟩, q => by
    obtain ⟨u, hu, ru⟩ := RepDs.get (i := i) (x := x) t (by simpa using q)
    exact ⟨u, by rw [e]; simpa using hu, ru⟩
theorem RepDs.append : ∀ {xs ys : List D} {vs ws : List V}, RepDs K H xs vs → RepDs K H ys ws → RepDs K H (xs ++ ys) (vs ++ ws)
  | [], _, _, _, h, g => by have h : _ = [] := h; rw [h]; exact g
  | _ :: _, _, _, _, ⟨v, r, e, h, t⟩, g => by rw [e]; exact ⟨v, _, rfl, h, RepDs.append t g⟩
theorem RepDs.one {x : D} {v : V} (h : RepD K H x v) : RepDs K H [x] [v] := ⟨v, [], rfl, h, rfl⟩
theorem RepDs.take : ∀ {xs : List D} {vs : List V} (n : Nat), RepDs K H xs vs → RepDs K H (xs.take n) (vs.take n)
  | _, _, 0, _ => by simp [RepDs]
  | [], _, n + 1, h => by have h : _ = [] := h; rw [h]; simp [RepDs]
  | _ :: _, _, n + 1, ⟨v, r, e, h, t⟩ => by rw [e]; exact ⟨v, _, rfl, h, RepDs.take n t⟩
theorem RepDs.drop : ∀ {xs : List D} {vs : List V} (n : Nat), RepDs K H xs vs → RepDs K H (xs.drop n) (vs.drop n)
  | _, _, 0, h => by simpa using h
  | [], _, n + 1, h => by have h : _ = [] := h; rw [h]; simp [RepDs]
  | _ :: _, _, n + 1, ⟨v, r, e, h, t⟩ => by rw [e]; exact RepDs.drop n t
theorem RepDs.set : ∀ {xs : List D} {vs : List V} {x : D} {v : V} (n : Nat), RepDs K H xs vs → RepD K H x v → RepDs K H (xs.set n x) (vs.set n v)
  | [], _, _, _, n, h, _ => by have h : _ = [] := h; rw [h]; simp [RepDs]
  | _ :: _, _, _, _, 0, ⟨v, r, e, h, t⟩, g => by rw [e]; exact ⟨_, _, rfl, g, t⟩
  | _ :: _, _, _, _, n + 1, ⟨v, r, e, h, t⟩, g => by rw [e]; exact ⟨_, _, rfl, h, RepDs.set n t g⟩
theorem RepDs.reverse : ∀ {xs : List D} {vs : List V}, RepDs K H xs vs → RepDs K H xs.reverse vs.reverse
  | [], _, h => by have h : _ = [] := h; rw [h]; simp [RepDs]
  | _ :: _, _, ⟨v, r, e, h, t⟩ => by rw [e, List.reverse_cons, List.reverse_cons]; exact RepDs.append (RepDs.reverse t) (RepDs.one h)
end

/-! ### as the layer's data -/
mutual
theorem RepD.dp {K : PySem.W.Frag} {H : Hp} : ∀ {x : D} {v : V}, RepD K H x v → Dp K H v x
  | .none, _, h => by have h : _ = V.non := h; rw [h]; exact .non
  | .bool _, _, h => by have h : _ = V.bl _ := h; rw [h]; exact .bl _
  | .int _, _, h => by have h : _ = V.int _ := h; rw [h]; exact .int _
  | .str _, _, h => by have h : _ = V.str _ := h; rw [h]; exact .str _
  | .tuple _, _, ⟨a, vs, e, s, r⟩ => by rw [e]; exact .tup s (RepDs.dp r)
  | .list _, _, ⟨a, vs, e, s, r⟩ => by rw [e]; exact .lst s.l (RepDs.dp r)
  | .dict _, _, h => h.elim
theorem RepDs.dp {K : PySem.W.Frag} {H : Hp} : ∀ {xs : List D} {vs : List V}, RepDs K H xs vs → DpAll K H vs xs
  | [], _, h => by have h : _ = [] := h; rw [h]; exact .nil
  | _ :: _, _, ⟨v, r, e, h, t⟩ => by rw [e]; exact .cons (RepD.dp h) (RepDs.dp t)
end

/-! ### slots -/
inductive Slot where
  | un | own (t : T) | hid (t : T)
/-- the slots' trees; P: where hidden trees stand -/
def SR (K : PySem.W.Frag) (P : Addr → Prop) (H : Hp) : List Slot → St → List Addr → Prop
  | [], σ, W => σ = [] ∧ W = []
  | .un :: ρ, σ, W => ∃ o r, σ = o :: r ∧ SR K P H ρ r W
  | .own t :: ρ, σ, W => ∃ v r w1 w2, σ = some v :: r ∧ RepT K H t v w1 ∧ SR K P H ρ r w2 ∧ W = w1 ++ w2
  | .hid t :: ρ, σ, W => ∃ v r w, σ = some v :: r ∧ RepT K H t v w ∧ (∀ b ∈ w, P b) ∧ SR K P H ρ r W
structure Good (K : PySem.W.Frag) (P : Addr → Prop) (H : Hp) (ρ : List Slot) (σ : St) (W : List Addr) : Prop where
  sr : SR K P H ρ σ W
  nd : W.Nodup
  ap : ∀ b, P b → b ∉ W ∧ ∃ o, H b = some o
section
variable {K : PySem.W.Frag} {P : Addr → Prop} {H H' : Hp} {W W0 : List Addr}
theorem SR.mut : ∀ {ρ : List Slot} {σ : St} {W : List Addr}, SR K P H ρ σ W → ∀ b ∈ W, MutO H b
  | [], _, _, ⟨_, e⟩, b, hb => by rw [e] at hb; simp at hb
  | .un :: _, _, _, ⟨o, r, e, h⟩, b, hb => SR.mut h b hb
  | .own t :: _, _, _, ⟨v, r, w1, w2, e, h, t', ew⟩, b, hb => by
    rw [ew] at hb
    exact (List.mem_append.mp hb).elim (h.mut b) (SR.mut t' b)
  | .hid t :: _, _, _, ⟨v, r, w, e, h, hn, t'⟩, b, hb => SR.mut t' b hb
theorem Good.mut {ρ : List Slot} {σ : St} (g : Good K P H ρ σ W) : ∀ b ∈ W, MutO H b := g.sr.mut
theorem SR.len : ∀ {ρ : List Slot} {σ : St} {W : List Addr}, SR K P H ρ σ W → σ.length = ρ.length
  | [], _, _, ⟨e, _⟩ => by rw [e]; rfl
  | .un :: _, _, _, ⟨o, r, e, h⟩ => by rw [e, List.length_cons, List.length_cons, SR.len h]
  | .own t :: _, _, _, ⟨v, r, w1, w2, e, h, t', ew⟩ => by rw [e, List.length_cons, List.length_cons, SR.len t']
  | .hid t :: _, _, _, ⟨v, r, w, e, h, hn, t'⟩ => by rw [e, List.length_cons, List.length_cons, SR.len t']
/-- all is kept but what is in W0, which is not here -/
theorem SR.keep (k : Kept W0 H H') (hp : ∀ b, P b → b ∉ W0) : ∀ {ρ : List Slot} {σ : St} {W : List Addr}, SR K P H ρ σ W → (∀ b ∈ W, b ∉ W0) → SR K P H' ρ σ W
  | [], _, _, h, _ => h
  | .un :: _, _, _, ⟨o, r, e, h⟩, hw => ⟨o, r, e, SR.keep k hp h hw⟩
  | .own t :: _, _, _, ⟨v, r, w1, w2, e, h, t', ew⟩, hw =>
    ⟨v, r, w1, w2, e, h.keep k fun b hb => hw b (by rw [ew]; exact List.mem_append_left _ hb), SR.keep k hp t' fun b hb => hw b (by rw [ew]; exact List.mem_append_right _ hb), ew⟩
  | .hid t :: _, _, _, ⟨v, r, w, e, h, hn, t'⟩, hw =>
    ⟨v, r, w, e, h.keep k fun b hb => hp b (hn b hb), hn, SR.keep k hp t' hw⟩
/-- more may be hidden -/
theorem SR.imp {P' : Addr → Prop} (i : ∀ b, P b → P' b) : ∀ {ρ : List Slot} {σ : St} {W : List Addr}, SR K P H ρ σ W → SR K P' H ρ σ W
  | [], _, _, h => h
  | .un :: _, _, _, ⟨o, r, e, h⟩ => ⟨o, r, e, SR.imp i h⟩
  | .own t :: _, _, _, ⟨v, r, w1, w2, e, h, t', ew⟩ => ⟨v, r, w1, w2, e, h, SR.imp i t', ew⟩
  | .hid t :: _, _, _, ⟨v, r, w, e, h, hn, t'⟩ => ⟨v, r, w, e, h, fun b hb => i b (hn b hb), SR.imp i t'⟩
/-- what is hidden stays apart -/
theorem Good.apart {ρ : List Slot} {σ : St} {W' : List Addr} (g : Good K P H ρ σ W) (st : Step W W' H H') : ∀ b, P b → b ∉ W' ∧ ∃ o, H' b = some o := fun b hb => by
  obtain ⟨h1, o, h2⟩ := g.ap b hb
  refine ⟨fun z => ?_, o, st.keep b o h2 h1⟩
  rcases st.new b z with z | z
  · exact h1 z
  · rw [h2] at z; cases z
end
end PW
end PwA
section PwB
set_option maxRecDepth 100000
/-! PwB: what an expression, arguments, a test, a block do to the slots' trees: transformers, and their judgements over the layer's. -/
namespace PW
open PySem PySem.Spec L2
open PyProof.Rows hiding St

/-- an operand: a tree, or what stands in a slot when it is wanted -/
inductive Opv where
  | val (t : T) | slot (i : Nat)
abbrev TF := List Slot → (Opv → List Slot → Prop) → Prop
abbrev TAF := List Slot → (List Opv → List Slot → Prop) → Prop
abbrev TTF := List Slot → (Bool → List Slot → Prop) → Prop
/-- what is wanted behind a statement -/
structure Es where
  nx : List Slot → Prop
  rt : T → List Slot → Prop
  bk : List Slot → Prop := fun _ => False
  ct : List Slot → Prop := fun _ => False
abbrev SF := Es → List Slot → Prop
abbrev GF := T → List Slot → (List Slot → Prop) → Prop

def RepO (K : PySem.W.Frag) (H : Hp) (σ : St) : Opv → V → List Addr → Prop
  | .val t, v, ws => RepT K H t v ws
  | .slot i, v, ws => σ[i]? = some (some v) ∧ ws = []
def RepOs (K : PySem.W.Frag) (H : Hp) (σ : St) : List Opv → List V → List Addr → Prop
  | [], vs, ws => vs = [] ∧ ws = []
  | o :: os, vs, ws => ∃ v r w1 w2, vs = v :: r ∧ RepO K H σ o v w1 ∧ RepOs K H σ os r w2 ∧ ws = w1 ++ w2
section
variable {K : PySem.W.Frag} {W : List Addr} {H H' : Hp} {σ : St}
theorem RepO.keep (k : Kept W H H') : ∀ {o : Opv} {v : V} {ws : List Addr}, RepO K H σ o v ws → (∀ b ∈ ws, b ∉ W) → RepO K H' σ o v ws
  | .val _, _, _, h, hw => RepT.keep k h hw
  | .slot _, _, _, h, _ => h
theorem RepOs.keep (k : Kept W H H') : ∀ {os : List Opv} {vs : List V} {ws : List Addr}, RepOs K H σ os vs ws → (∀ b ∈ ws, b ∉ W) → RepOs K H' σ os vs ws
  | [], _, _, h, _ => h
  | _ :: _, _, _, ⟨v, r, w1, w2, e, h, t, ew⟩, hw => ⟨v, r, w1, w2, e, h.keep k fun b hb => hw b (by rw [ew]; exact List.mem_append_left _ hb), RepOs.keep k t fun b hb => hw b (by rw [ew]; exact List.mem_append_right _ hb), ew⟩
theorem RepO.mut : ∀ {o : Opv} {v : V} {ws : List Addr}, RepO K H σ o v ws → ∀ b ∈ ws, MutO H b
  | .val _, _, _, h => RepT.mut h
  | .slot _, _, _, h => fun b hb => by rw [h.2] at hb; simp at hb
theorem RepOs.mut : ∀ {os : List Opv} {vs : List V} {ws : List Addr}, RepOs K H σ os vs ws → ∀ b ∈ ws, MutO H b
  | [], _, _, h => fun b hb => by rw [h.2] at hb; simp at hb
  | _ :: _, _, _, ⟨v, r, w1, w2, e, h, t, ew⟩ => fun b hb => by
    rw [ew] at hb; exact (List.mem_append.mp hb).elim (h.mut b) (RepOs.mut t b)
end

/-- slots at fx stay, none is added -/
def Fx (fx : List Nat) (σ σ' : St) : Prop := (∀ i ∈ fx, σ'[i]? = σ[i]?) ∧ σ'.length = σ.length
theorem Fx.refl {fx : List Nat} {σ : St} : Fx fx σ σ := ⟨fun _ _ => rfl, rfl⟩
theorem Fx.trans {fx : List Nat} {σ σ1 σ2 : St} (a : Fx fx σ σ1) (b : Fx fx σ1 σ2) : Fx fx σ σ2 := ⟨fun i hi => (b.1 i hi).trans (a.1 i hi), b.2.trans a.2⟩
theorem Fx.set {fx : List Nat} {σ σ1 : St} {i : Nat} {o : Option V} (a : Fx fx σ σ1) (h : i ∉ fx) : Fx fx σ (σ1.set i o) :=
  ⟨fun j hj => (List.getElem?_set_ne (fun e => h (by rw [e]; exact hj))).trans (a.1 j hj), by rw [List.length_set]; exact a.2⟩
/-- behind an expression -/
def Res (K : PySem.W.Frag) (P : Addr → Prop) (H : Hp) (σ : St) (W : List Addr) (v : V) (H' : Hp) (o : Opv) (ρ' : List Slot) : Prop :=
  ∃ ws W', Step W (ws ++ W') H H' ∧ (ws ++ W').Nodup ∧ SR K P H' ρ' σ W' ∧ RepO K H' σ o v ws
def ResA (K : PySem.W.Frag) (P : Addr → Prop) (H : Hp) (σ : St) (W : List Addr) (vs : List V) (H' : Hp) (os : List Opv) (ρ' : List Slot) : Prop :=
  ∃ ws W', Step W (ws ++ W') H H' ∧ (ws ++ W').Nodup ∧ SR K P H' ρ' σ W' ∧ RepOs K H' σ os vs ws
def ResT (K : PySem.W.Frag) (P : Addr → Prop) (H : Hp) (σ : St) (W : List Addr) (H' : Hp) (ρ' : List Slot) : Prop :=
  ∃ W', Step W W' H H' ∧ Good K P H' ρ' σ W'
/-- behind a statement: fx: slots that stay -/
def ResS (K : PySem.W.Frag) (P : Addr → Prop) (fx : List Nat) (H : Hp) (σ : St) (W : List Addr) (σ' : St) (H' : Hp) (ρ' : List Slot) : Prop :=
  ∃ W', Step W W' H H' ∧ Good K P H' ρ' σ' W' ∧ Fx fx σ σ'
def ResR (K : PySem.W.Frag) (P : Addr → Prop) (fx : List Nat) (H : Hp) (σ : St) (W : List Addr) (v : V) (H' : Hp) (t : T) (ρ' : List Slot) : Prop :=
  ∃ ws W' σ', Step W (ws ++ W') H H' ∧ (ws ++ W').Nodup ∧ SR K P H' ρ' σ' W' ∧ RepT K H' t v ws ∧ Fx fx σ σ'

def tO (K : PySem.W.Frag) (f : TF) : TE := fun σ H Q => ∃ P ρ W R, Good K P H ρ σ W ∧ f ρ R ∧ ∀ v H' o ρ', Res K P H σ W v H' o ρ' → R o ρ' → Q v H'
def tAO (K : PySem.W.Frag) (f : TAF) : TA := fun σ H Q => ∃ P ρ W R, Good K P H ρ σ W ∧ f ρ R ∧ ∀ vs H' os ρ', ResA K P H σ W vs H' os ρ' → R os ρ' → Q vs H'
def tTO (K : PySem.W.Frag) (f : TTF) : TT := fun σ H Q => ∃ P ρ W R, Good K P H ρ σ W ∧ f ρ R ∧ ∀ b H' ρ', ResT K P H σ W H' ρ' → R b ρ' → Q b H'
def sO (K : PySem.W.Frag) (fx : List Nat) (f : SF) : TS := fun D σ H => ∃ P ρ W E, Good K P H ρ σ W ∧ f E ρ ∧
  (∀ σ' H' ρ', ResS K P fx H σ W σ' H' ρ' → E.nx ρ' → D.nx σ' H') ∧ (∀ v H' t ρ', ResR K P fx H σ W v H' t ρ' → E.rt t ρ' → D.rt v H') ∧
  (∀ σ' H' ρ', ResS K P fx H σ W σ' H' ρ' → E.bk ρ' → D.bk σ' H') ∧ (∀ σ' H' ρ', ResS K P fx H σ W σ' H' ρ' → E.ct ρ' → D.ct σ' H')
/-- storing a tree in a target -/
def gO (K : PySem.W.Frag) (fx : List Nat) (g : GF) : TG := fun v σ H Q => ∃ P ρ W ws t R, SR K P H ρ σ W ∧ (ws ++ W).Nodup ∧ (∀ b, P b → b ∉ ws ++ W ∧ ∃ o, H b = some o) ∧ RepT K H t v ws ∧ g t ρ R ∧
  ∀ σ' H' ρ', ResS K P fx H σ (ws ++ W) σ' H' ρ' → R ρ' → Q σ' H'

def VE (X : Cx) (e : Expr) (f : TF) : Prop := PE X e (tO X.K f)
def VA (X : Cx) (es : List Expr) (f : TAF) : Prop := PA X es (tAO X.K f)
def VT (X : Cx) (e : Expr) (f : TTF) : Prop := PT X e (tTO X.K f)
def VS (X : Cx) (fx : List Nat) (st : Stmt) (f : SF) : Prop := PS X st (sO X.K fx f)
def VSs (X : Cx) (fx : List Nat) (st : List Stmt) (f : SF) : Prop := PSs X st (sO X.K fx f)
def VG (X : Cx) (fx : List Nat) (tg : Expr) (g : GF) : Prop := PG X tg (gO X.K fx g)

section
variable {X : Cx} {e : Expr} {es : List Expr} {st : Stmt} {sts : List Stmt}
theorem _root_.L2.PE.pwi {t t' : TE} (h : PE X e t) (i : ∀ σ H Q, t' σ H Q → t σ H Q) : PE X e t' := ⟨fun pins s σ H Q I q => h.run pins s σ H Q I (i σ H Q q)⟩
theorem _root_.L2.PA.pwi {t t' : TA} (h : PA X es t) (i : ∀ σ H Q, t' σ H Q → t σ H Q) : PA X es t' := ⟨fun pos pins s σ H Q I q => h.run pos pins s σ H Q I (i σ H Q q)⟩
theorem _root_.L2.PT.pwi {t t' : TT} (h : PT X e t) (i : ∀ σ H Q, t' σ H Q → t σ H Q) : PT X e t' := ⟨fun pins s σ H Q I q => h.run pins s σ H Q I (i σ H Q q)⟩
theorem _root_.L2.PS.pwi {t t' : TS} (h : PS X st t) (i : ∀ D σ H, t' D σ H → t D σ H) : PS X st t' := ⟨fun pins s σ H D I q => h.run pins s σ H D I (i D σ H q)⟩
theorem _root_.L2.PSs.pwi {t t' : TS} (h : PSs X sts t) (i : ∀ D σ H, t' D σ H → t D σ H) : PSs X sts t' := ⟨fun pins s σ H D I q => h.run pins s σ H D I (i D σ H q)⟩
theorem _root_.L2.PG.pwi {t t' : TG} (h : PG X e t) (i : ∀ v σ H Q, t' v σ H Q → t v σ H Q) : PG X e t' := ⟨fun pins s σ H v u Q I r q => h.run pins s σ H v u Q I r (i v σ H Q q)⟩
end

/-! ### slots are read, pulled out, put back -/
section
variable {K : PySem.W.Frag} {P : Addr → Prop} {H H' : Hp} {W : List Addr}
theorem SR.read : ∀ {ρ : List Slot} {σ : St} {W : List Addr} {i : Nat} {t : T}, SR K P H ρ σ W → (ρ[i]? = some (.own t) ∨ ρ[i]? = some (.hid t)) → ∃ v ws, σ[i]? = some (some v) ∧ RepT K H t v ws
  | [], _, _, _, _, _, h => by simp at h
  | .un :: _, _, _, 0, _, _, h => by simp at h
  | .own t :: _, _, _, 0, t', ⟨v, r, w1, w2, e, h, _, _⟩, q => by
    have q : t = t' := by simpa using q
    subst q; exact ⟨v, w1, by rw [e]; rfl, h⟩
  | .hid t :: _, _, _, 0, t', ⟨v, r, w, e, h, _, _⟩, q => by
    have q : t = t' := by simpa using q
    subst q; exact ⟨v, w, by rw [e]; rfl, h⟩
  | .un :: _, _, _, i + 1, _, ⟨o, r, e, h⟩, q => by
    obtain ⟨v, ws, e1, r1⟩ := SR.read (i := i) h (by simpa using q)
    exact ⟨v, ws, by rw [e]; simpa using e1, r1⟩
  | .own _ :: _, _, _, i + 1, _, ⟨_, r, _, _, e, _, h, _⟩, q => by
    obtain ⟨v, ws, e1, r1⟩ := SR.read (i := i) h (by simpa using q)
    exact ⟨v, ws, by rw [e]; simpa using e1, r1⟩
  | .hid _ :: _, _, _, i + 1, _, ⟨_, r, _, e, _, _, h⟩, q => by
    obtain ⟨v, ws, e1, r1⟩ := SR.read (i := i) h (by simpa using q)
    exact ⟨v, ws, by rw [e]; simpa using e1, r1⟩
/-- a slot's tree is taken out (its place in the frame stays) -/
theorem SR.pull : ∀ {ρ : List Slot} {σ : St} {W : List Addr} {i : Nat} {t : T}, SR K P H ρ σ W → ρ[i]? = some (.own t) →
    ∃ v ws W1, σ[i]? = some (some v) ∧ RepT K H t v ws ∧ SR K P H (ρ.set i .un) σ W1 ∧ (∀ b, b ∈ W ↔ b ∈ ws ++ W1) ∧ (W.Nodup → (ws ++ W1).Nodup)
  | [], _, _, _, _, _, h => by simp at h
  | .un :: _, _, _, 0, _, _, h => by simp at h
  | .own t :: ρ, _, _, 0, t', ⟨v, r, w1, w2, e, h, g, ew⟩, q => by
    have q : t = t' := by simpa using q
    subst q
    exact ⟨v, w1, w2, by rw [e]; rfl, h, ⟨some v, r, e, g⟩, fun b => by rw [ew], fun nd => by rw [← ew]; exact nd⟩
  | .hid t :: _, _, _, 0, _, _, q => by simp at q
  | .un :: ρ, _, _, i + 1, _, ⟨o, r, e, h⟩, q => by
    obtain ⟨v, ws, W1, e1, r1, g, m, nd⟩ := SR.pull (i := i) h (by simpa using q)
    exact ⟨v, ws, W1, by rw [e]; simpa using e1, r1, ⟨o, r, e, g⟩, m, nd⟩
  | .own t0 :: ρ, _, _, i + 1, _, ⟨v0, r, w1, w2, e, h0, h, ew⟩, q => by
    obtain ⟨v, ws, W1, e1, r1, g, m, nd⟩ := SR.pull (i := i) h (by simpa using q)
    refine ⟨v, ws, w1 ++ W1, by rw [e]; simpa using e1, r1, ⟨v0, r, w1, W1, e, h0, g, rfl⟩, fun b => ?_, fun n => ?_⟩
    · rw [ew]; simp only [List.mem_append]
      have := m b
      simp only [List.mem_append] at this
      rw [this]
      constructor <;> (intro z; rcases z with z | z | z <;> simp [z])
    · rw [ew, List.nodup_append] at n
      obtain ⟨n1, n2, n3⟩ := n
      have n4 := nd n2
      rw [List.nodup_append] at n4 ⊢
      obtain ⟨a1, a2, a3⟩ := n4
      refine ⟨a1, List.nodup_append.mpr ⟨n1, a2, fun x hx y hy => n3 x hx y ((m y).mpr (List.mem_append_right _ hy))⟩, fun x hx y hy => ?_⟩
      rcases List.mem_append.mp hy with z | z
      · exact fun e' => n3 y z x ((m x).mpr (List.mem_append_left _ hx)) e'.symm
      · exact a3 x hx y z
  | .hid _ :: ρ, _, _, i + 1, _, ⟨v0, r, w, e, h0, hn, h⟩, q => by
    obtain ⟨v, ws, W1, e1, r1, g, m, nd⟩ := SR.pull (i := i) h (by simpa using q)
    exact ⟨v, ws, W1, by rw [e]; simpa using e1, r1, ⟨v0, r, w, e, h0, hn, g⟩, m, nd⟩
/-- a slot takes a tree -/
theorem SR.put : ∀ {ρ : List Slot} {σ : St} {W1 ws : List Addr} {i : Nat} {t : T} {v : V}, SR K P H ρ σ W1 → (ws ++ W1).Nodup → i < ρ.length → RepT K H t v ws →
    ∃ W, SR K P H (ρ.set i (.own t)) (σ.set i (some v)) W ∧ (∀ b, b ∈ W → b ∈ ws ++ W1) ∧ W.Nodup
  | [], _, _, _, _, _, _, _, _, h, _ => by simp at h
  | .un :: ρ, _, W1, ws, 0, t, v, ⟨o, r, e, h⟩, nd, _, q => ⟨ws ++ W1, ⟨v, r, ws, W1, by rw [e]; rfl, q, h, rfl⟩, fun _ h => h, nd⟩
  | .own t0 :: ρ, _, W1, ws, 0, t, v, ⟨v0, r, w1, w2, e, h0, h, ew⟩, nd, _, q => by
    subst ew
    refine ⟨ws ++ w2, ⟨v, r, ws, w2, by rw [e]; rfl, q, h, rfl⟩, fun b hb => ?_, ?_⟩
    · rcases List.mem_append.mp hb with z | z <;> simp [z]
    · exact nd.sublist (List.Sublist.append (List.Sublist.refl ws) (List.sublist_append_right w1 w2))
  | .hid t0 :: ρ, _, W1, ws, 0, t, v, ⟨v0, r, w, e, h0, hn, h⟩, nd, _, q => ⟨ws ++ W1, ⟨v, r, ws, W1, by rw [e]; rfl, q, h, rfl⟩, fun _ h => h, nd⟩
  | .un :: ρ, _, W1, ws, i + 1, t, v, ⟨o, r, e, h⟩, nd, hi, q => by
    obtain ⟨W, g, m, n⟩ := SR.put (i := i) h nd (by simpa using hi) q
    exact ⟨W, ⟨o, r.set i (some v), by rw [e]; rfl, g⟩, m, n⟩
  | .own t0 :: ρ, _, W1, ws, i + 1, t, v, ⟨v0, r, w1, w2, e, h0, h, ew⟩, nd, hi, q => by
    subst ew
    have nd' := nd
    rw [List.nodup_append] at nd
    obtain ⟨a1, a2, a3⟩ := nd
    rw [List.nodup_append] at a2
    obtain ⟨b1, b2, b3⟩ := a2
    obtain ⟨W, g, m, n⟩ := SR.put (i := i) h (List.nodup_append.mpr ⟨a1, b2, fun x hx y hy => a3 x hx y (List.mem_append_right _ hy)⟩) (by simpa using hi) q
    refine ⟨w1 ++ W, ⟨v0, r.set i (some v), w1, W, by rw [e]; rfl, h0, g, rfl⟩, fun b hb => ?_, List.nodup_append.mpr ⟨b1, n, fun x hx y hy => ?_⟩⟩
    · rcases List.mem_append.mp hb with z | z
      · simp [z]
      · rcases List.mem_append.mp (m b z) with z | z <;> simp [z]
    · rcases List.mem_append.mp (m y hy) with z | z
      · exact fun e' => a3 y z x (List.mem_append_left _ hx) e'.symm
      · exact b3 x hx y z
  | .hid t0 :: ρ, _, W1, ws, i + 1, t, v, ⟨v0, r, w, e, h0, hn, h⟩, nd, hi, q => by
    obtain ⟨W, g, m, n⟩ := SR.put (i := i) h nd (by simpa using hi) q
    exact ⟨W, ⟨v0, r.set i (some v), w, by rw [e]; rfl, h0, hn, g⟩, m, n⟩
/-- behind a step that leaves W1 alone: all is as it was -/
theorem SR.after {ρ : List Slot} {σ : St} {W0 W1 : List Addr} (g : SR K P H ρ σ W1) (hs : ∀ b o, H b = some o → b ∉ W0 → H' b = some o) (mu : ∀ b ∈ W0, MutO H b) (h0 : ∀ b, P b → b ∉ W0) (h1 : ∀ b ∈ W1, b ∉ W0) : SR K P H' ρ σ W1 :=
  SR.keep ⟨hs, mu⟩ h0 g h1
end
end PW
end PwB
section PwC
set_option maxRecDepth 100000
/-! PwC: expressions: constants, names, operands, operations, arguments, tests. -/
namespace PW
open PySem PySem.Spec L2
open PyProof.Rows hiding St

section
variable {K : PySem.W.Frag} {H H1 H2 : Hp} {W W1 W2 ws : List Addr}
theorem nd_right {α : Type} {a b : List α} (h : (a ++ b).Nodup) : b.Nodup := (List.nodup_append.mp h).2.1
theorem nd_left {α : Type} {a b : List α} (h : (a ++ b).Nodup) : a.Nodup := (List.nodup_append.mp h).1
theorem nd_apart {α : Type} {a b : List α} (h : (a ++ b).Nodup) : ∀ x ∈ a, x ∉ b := fun x hx hy => (List.nodup_append.mp h).2.2 x hx x hy rfl
theorem nd_mk {α : Type} {a b : List α} (h1 : a.Nodup) (h2 : b.Nodup) (h3 : ∀ x ∈ a, x ∉ b) : (a ++ b).Nodup := List.nodup_append.mpr ⟨h1, h2, fun x hx y hy e => h3 x hx (e ▸ hy)⟩
/-- two steps, the first one's gain ws held meanwhile -/
theorem glue (st : Step W (ws ++ W1) H H1) (nd : (ws ++ W1).Nodup) (mu : ∀ b ∈ ws, MutO H1 b) (st2 : Step W1 W2 H1 H2) (nd2 : W2.Nodup) : Step W (ws ++ W2) H H2 ∧ (ws ++ W2).Nodup :=
  ⟨st.trans st2 nd, nd_mk (nd_left nd) nd2 fun x hx hy => by
    rcases st2.new x hy with z | z
    · exact nd_apart nd x hx z
    · obtain ⟨o, e⟩ := (mu x hx).there
      rw [z] at e; cases e⟩
theorem Step.drop (st : Step W (ws ++ W1) H H1) : Step W W1 H H1 := ⟨st.keep, fun b hb => st.new b (List.mem_append_right _ hb)⟩
theorem Step.fresh (st : Step W W1 H H1) (sm : Same H1 H2) (fr : ∀ b ∈ ws, H1 b = none) (mu : ∀ b ∈ W, MutO H b) : Step W (ws ++ W1) H H2 :=
  ⟨fun b o h hb => sm b o (st.keep b o h hb), fun b hb => by
    rcases List.mem_append.mp hb with z | z
    · by_cases hw : b ∈ W
      · exact .inl hw
      · refine .inr ?_
        cases q : H b with
        | none => rfl
        | some o => have := st.keep b o q hw; rw [fr b z] at this; cases this
    · exact st.new b z⟩
theorem Step.new_nd (mu : ∀ b ∈ W1, MutO H1 b) (fr : ∀ b ∈ ws, H1 b = none) (n : ws.Nodup) (n1 : W1.Nodup) : (ws ++ W1).Nodup := nd_mk n n1 fun x hx hy => by
  obtain ⟨o, e⟩ := (mu x hy).there
  rw [fr x hx] at e; cases e
theorem Res.good {P : Addr → Prop} {σ : St} {ρ : List Slot} {v : V} {o : Opv} {ρ' : List Slot} (G : Good K P H ρ σ W) (r : Res K P H σ W v H1 o ρ') : ∃ ws W1, Good K P H1 ρ' σ W1 ∧ Step W (ws ++ W1) H H1 ∧ (ws ++ W1).Nodup ∧ RepO K H1 σ o v ws :=
  let ⟨ws, W1, st, nd, sr, rp⟩ := r
  ⟨ws, W1, ⟨sr, nd_right nd, G.apart st.drop⟩, st, nd, rp⟩
end

section
variable {X : Cx} {e a b c : Expr} {es : List Expr} {pos : Pos} {f fa fb fc : TF} {fs : TAF} {i : Nat}

/-! ### constants, names -/
def fCst (x : D) : TF := fun ρ Q => Q (.val (.d x)) ρ
/-- data in a slot -/
def fVar (i : Nat) : TF := fun ρ Q => match ρ[i]? with
  | some (.own (.d x)) => Q (.val (.d x)) ρ
  | some (.hid (.d x)) => Q (.val (.d x)) ρ
  | _ => False
/-- what stands in a slot when it is wanted -/
def fBor (i : Nat) : TF := fun ρ Q => match ρ[i]? with
  | some (.own _) => Q (.slot i) ρ
  | some (.hid _) => Q (.slot i) ρ
  | _ => False
/-- from here on nobody changes the list in a slot -/
def fFrz (i : Nat) : TF := fun ρ Q => match ρ[i]? with
  | some (.own (.d x)) => Q (.val (.d x)) ρ
  | some (.own (.ls xs)) => Q (.val (.d (.list xs))) (ρ.set i (.own (.d (.list xs))))
  | _ => False
/-- a slot's tree is taken -/
def fMv (i : Nat) : TF := fun ρ Q => match ρ[i]? with
  | some (.own t) => Q (.val t) (ρ.set i .un)
  | _ => False

theorem ve_cst {x : D} {v : V} (h : PE X e (tC v)) (r : ∀ H, RepD X.K H x v) : VE X e (fCst x) := h.pwi fun σ H Q ⟨P, ρ, W, R, G, q, k⟩ =>
  k _ _ (.val (.d x)) _ ⟨[], W, Step.refl _ _, by simpa using G.nd, G.sr, ⟨r H, rfl⟩⟩ q
theorem ve_int {j : Int} {k : Nat} : VE X (.Constant (.int j) k pos) (fCst (.int j)) := ve_cst pe_int fun _ => rfl
theorem ve_bl {j : Bool} {k : Nat} : VE X (.Constant (.bool j) k pos) (fCst (.bool j)) := ve_cst pe_bl fun _ => rfl
theorem ve_non {k : Nat} : VE X (.Constant .none k pos) (fCst .none) := ve_cst pe_non fun _ => rfl
theorem ve_str {j : Str} {k : Nat} : VE X (.Constant (.str j) k pos) (fCst (.str j)) := ve_cst pe_str fun _ => rfl
theorem ve_var (h : PE X e (tVar i)) : VE X e (fVar i) := h.pwi fun σ H Q ⟨P, ρ, W, R, G, q, k⟩ => by
  unfold fVar at q
  split at q
  · rename_i x hx
    obtain ⟨v, ws, hv, hr, hw⟩ := G.sr.read (.inl hx)
    exact ⟨v, hv, k _ _ (.val (.d x)) _ ⟨[], W, Step.refl _ _, by simpa using G.nd, G.sr, ⟨hr, rfl⟩⟩ q⟩
  · rename_i x hx
    obtain ⟨v, ws, hv, hr, hw⟩ := G.sr.read (.inr hx)
    exact ⟨v, hv, k _ _ (.val (.d x)) _ ⟨[], W, Step.refl _ _, by simpa using G.nd, G.sr, ⟨hr, rfl⟩⟩ q⟩
  · exact q.elim
theorem ve_bor (h : PE X e (tVar i)) : VE X e (fBor i) := h.pwi fun σ H Q ⟨P, ρ, W, R, G, q, k⟩ => by
  unfold fBor at q
  split at q
  · rename_i t hx
    obtain ⟨v, ws, hv, hr⟩ := G.sr.read (.inl hx)
    exact ⟨v, hv, k _ _ (.slot i) _ ⟨[], W, Step.refl _ _, by simpa using G.nd, G.sr, ⟨hv, rfl⟩⟩ q⟩
  · rename_i t hx
    obtain ⟨v, ws, hv, hr⟩ := G.sr.read (.inr hx)
    exact ⟨v, hv, k _ _ (.slot i) _ ⟨[], W, Step.refl _ _, by simpa using G.nd, G.sr, ⟨hv, rfl⟩⟩ q⟩
  · exact q.elim
theorem ve_mv (h : PE X e (tVar i)) : VE X e (fMv i) := h.pwi fun σ H Q ⟨P, ρ, W, R, G, q, k⟩ => by
  unfold fMv at q
  split at q
  · rename_i t hx
    obtain ⟨v, ws, W1, hv, hr, sr, m, n⟩ := G.sr.pull hx
    refine ⟨v, hv, k _ _ (.val t) _ ⟨ws, W1, ⟨fun b o h _ => h, fun b hb => .inl ((m b).mpr hb)⟩, n G.nd, sr, hr⟩ q⟩
  · exact q.elim
theorem set_same {α : Type} : ∀ {l : List α} {i : Nat} {x : α}, l[i]? = some x → l.set i x = l
  | [], _, _, h => by simp at h
  | y :: l, 0, x, h => by simp at h; simp [h]
  | y :: l, i + 1, x, h => by simp at h; simp [set_same h]
theorem SR.lt {ρ : List Slot} {i : Nat} {s : Slot} (h : ρ[i]? = some s) : i < ρ.length := (List.getElem?_eq_some_iff.mp h).1
/-- a list of a slot is locked for ever -/
theorem SR.lock {K : PySem.W.Frag} {H : Hp} {W : List Addr} {P : Addr → Prop} {ρ : List Slot} {σ : St} {i : Nat} {xs : List D} (G : Good K P H ρ σ W) (hx : ρ[i]? = some (.own (.ls xs))) :
    ∃ a vs, σ[i]? = some (some (.ref a)) ∧ H a = some (.lst vs) ∧ ∀ od, ∃ W1, Step W W1 H (upd H a (.frz od (.lst vs))) ∧ W1.Nodup ∧ SR K P (upd H a (.frz od (.lst vs))) (ρ.set i (.own (.d (.list xs)))) σ W1 ∧
      RepD K (upd H a (.frz od (.lst vs))) (.list xs) (.ref a) := by
  obtain ⟨v, ws, W1, hv, hr, sr, m, n⟩ := G.sr.pull hx
  obtain ⟨a, vs, e, h, r, ew⟩ := hr
  subst e ew
  have n' : ([a] ++ W1).Nodup := n G.nd
  have na : a ∉ W1 := nd_apart n' a (by simp)
  refine ⟨a, vs, hv, h, fun od => ?_⟩
  have kp : Kept [a] H (upd H a (.frz od (.lst vs))) := ⟨fun b o hb hn => by rw [upd_ne (by simpa using hn)]; exact hb, fun b hb => by
    have : b = a := by simpa using hb
    subst this; exact .inl ⟨_, h⟩⟩
  have rp : RepD K (upd H a (.frz od (.lst vs))) (.list xs) (.ref a) := ⟨a, vs, rfl, .inl ⟨od, upd_same⟩, r.keep kp⟩
  have sr1 : SR K P (upd H a (.frz od (.lst vs))) (ρ.set i .un) σ W1 := sr.after (W0 := [a]) kp.keep kp.mu (fun b hb z => (G.ap b hb).1 ((m b).mpr (List.mem_append_left _ z))) (fun b hb z => by
    have : b = a := by simpa using z
    subst this; exact na hb)
  have hi : i < (ρ.set i .un).length := by rw [List.length_set]; exact SR.lt hx
  obtain ⟨W2, sr2, m2, n2⟩ := sr1.put (ws := []) (t := .d (.list xs)) (v := .ref a) (by simpa using nd_right n') hi ⟨rp, rfl⟩
  rw [List.set_set] at sr2
  refine ⟨W2, ⟨fun b o hb hn => kp.keep b o hb fun z => hn ((m b).mpr (List.mem_append_left _ z)), fun b hb => .inl ((m b).mpr (by simpa using List.mem_append_right [a] (by simpa using m2 b hb)))⟩, n2, ?_, rp⟩
  have es : σ.set i (some (.ref a)) = σ := set_same hv
  rw [es] at sr2
  exact sr2
theorem ve_frz (h : PE X e (tVar i)) : VE X e (fFrz i) := by
  refine ⟨fun pins s σ H Q I ⟨P, ρ, W, R, G, q, k⟩ => ?_⟩
  unfold fFrz at q
  split at q
  · rename_i x hx
    obtain ⟨v, ws, hv, hr, hw⟩ := G.sr.read (.inl hx)
    exact h.run pins s σ H Q I ⟨v, hv, k _ _ (.val (.d x)) _ ⟨[], W, Step.refl _ _, by simpa using G.nd, G.sr, ⟨hr, rfl⟩⟩ q⟩
  · rename_i xs hx
    obtain ⟨a, vs, hv, ha, L⟩ := SR.lock G hx
    refine thn (h.run pins s σ H (fun v H1 => v = .ref a ∧ H1 = H) I ⟨.ref a, hv, rfl, rfl⟩) fun u s1 ⟨v, H1, I1, r1, e1, e2⟩ => ?_
    subst e1 e2
    obtain ⟨od, I2⟩ := I1.lock ha trivial
    obtain ⟨W1, st, n1, sr, rp⟩ := L od
    exact ⟨_, _, I2, r1, k _ _ (.val (.d (.list xs))) _ ⟨[], W1, st, n1, sr, ⟨rp, rfl⟩⟩ q⟩
  · exact q.elim

/-! ### arguments -/
def fNil : TAF := fun ρ Q => Q [] ρ
def fCons (f : TF) (g : TAF) : TAF := fun ρ Q => f ρ fun o ρ1 => g ρ1 fun os ρ2 => Q (o :: os) ρ2
theorem cons_core {K : PySem.W.Frag} {f : TF} {g : TAF} {σ : St} {H : Hp} {Q : List V → Hp → Prop} (h : tAO K (fCons f g) σ H Q) : tO K f σ H fun x H1 => tAO K g σ H1 fun xs H2 => Q (x :: xs) H2 := by
  obtain ⟨P, ρ, W, R, G, q, k⟩ := h
  refine ⟨P, ρ, W, _, G, q, fun v H1 o ρ1 r1 h1 => ?_⟩
  obtain ⟨ws, W1, G1, st, nd, rp⟩ := r1.good G
  refine ⟨P, ρ1, W1, _, G1, h1, fun vs H2 os ρ2 r2 h2 => k _ _ _ _ ?_ h2⟩
  obtain ⟨ws2, W2, st2, nd2, sr2, rp2⟩ := r2
  obtain ⟨st3, nd3⟩ := glue st nd rp.mut st2 nd2
  refine ⟨ws ++ ws2, W2, by rw [List.append_assoc]; exact st3, by rw [List.append_assoc]; exact nd3, sr2, v, vs, ws, ws2, rfl, rp.keep ⟨st2.keep, G1.mut⟩ fun b hb => nd_apart nd b hb, rp2, rfl⟩
theorem va_nil : VA X [] fNil := PA.pwi pa_nil fun σ H Q ⟨P, ρ, W, R, G, q, k⟩ => k _ _ [] _ ⟨[], W, Step.refl _ _, by simpa using G.nd, G.sr, ⟨rfl, rfl⟩⟩ q
theorem va_cons (ha : VE X e f) (hr : VA X es fs) (hs : starEach (e :: es) X.env = (false, eval e X.env) :: starEach es X.env := by rfl) : VA X (e :: es) (fCons f fs) :=
  PA.pwi (pa_cons ha hr hs) fun σ H Q h => cons_core h
theorem tO_mono {K : PySem.W.Frag} {f : TF} {σ : St} {H : Hp} {Q Q' : VK} (h : tO K f σ H Q) (i : ∀ v H', Q v H' → Q' v H') : tO K f σ H Q' :=
  let ⟨P, ρ, W, R, G, q, k⟩ := h
  ⟨P, ρ, W, R, G, q, fun v H' o ρ' r hr => i _ _ (k v H' o ρ' r hr)⟩
theorem two_core {K : PySem.W.Frag} {f g : TF} {σ : St} {H : Hp} {Q : List V → Hp → Prop} (h : tAO K (fCons f (fCons g fNil)) σ H Q) : tO K f σ H fun x H1 => tO K g σ H1 fun y H2 => Q [x, y] H2 :=
  tO_mono (cons_core h) fun v H1 h1 => tO_mono (cons_core h1) fun u H2 ⟨P, ρ, W, R, G, q, k⟩ => k _ _ [] _ ⟨[], W, Step.refl _ _, by simpa using G.nd, G.sr, ⟨rfl, rfl⟩⟩ q
theorem one_core {K : PySem.W.Frag} {f : TF} {σ : St} {H : Hp} {Q : List V → Hp → Prop} (h : tAO K (fCons f fNil) σ H Q) : tO K f σ H fun x H1 => Q [x] H1 :=
  tO_mono (cons_core h) fun v H1 ⟨P, ρ, W, R, G, q, k⟩ => k _ _ [] _ ⟨[], W, Step.refl _ _, by simpa using G.nd, G.sr, ⟨rfl, rfl⟩⟩ q

/-! ### operations on what is read -/
abbrev OF := List T → (T → Prop) → Prop
abbrev RV := List V → Hp → VK → Prop
def BReps (K : PySem.W.Frag) (H : Hp) : List T → List V → Prop
  | [], vs => vs = []
  | t :: ts, vs => ∃ v r ws, vs = v :: r ∧ RepT K H t v ws ∧ BReps K H ts r
/-- the operands as they stand now -/
def withR (ρ : List Slot) : List Opv → (List T → Prop) → Prop
  | [], k => k []
  | .val t :: os, k => withR ρ os fun ts => k (t :: ts)
  | .slot i :: os, k => match ρ[i]? with
    | some (.own t) => withR ρ os fun ts => k (t :: ts)
    | some (.hid t) => withR ρ os fun ts => k (t :: ts)
    | _ => False
theorem withR_ok {K : PySem.W.Frag} {P : Addr → Prop} {H : Hp} {W : List Addr} {ρ : List Slot} {σ : St} (sr : SR K P H ρ σ W) : ∀ {os : List Opv} {vs : List V} {ws : List Addr} {k : List T → Prop}, RepOs K H σ os vs ws → withR ρ os k → ∃ ts, BReps K H ts vs ∧ k ts
  | [], _, _, _, h, q => ⟨[], h.1, q⟩
  | .val t :: os, _, _, _, ⟨v, r, w1, w2, e, h, g, _⟩, q => by
    obtain ⟨ts, b, q'⟩ := withR_ok sr (os := os) g q
    exact ⟨t :: ts, ⟨v, r, w1, e, h, b⟩, q'⟩
  | .slot i :: os, _, _, _, ⟨v, r, w1, w2, e, h, g, _⟩, q => by
    unfold withR at q
    split at q
    · rename_i t hx
      obtain ⟨ts, b, q'⟩ := withR_ok sr (os := os) g q
      obtain ⟨v', ws', hv, hr⟩ := sr.read (.inl hx)
      have hv' := h.1.symm.trans hv
      have : v = v' := by injection hv' with z; injection z
      subst this
      exact ⟨t :: ts, ⟨v, r, ws', e, hr, b⟩, q'⟩
    · rename_i t hx
      obtain ⟨ts, b, q'⟩ := withR_ok sr (os := os) g q
      obtain ⟨v', ws', hv, hr⟩ := sr.read (.inr hx)
      have hv' := h.1.symm.trans hv
      have : v = v' := by injection hv' with z; injection z
      subst this
      exact ⟨t :: ts, ⟨v, r, ws', e, hr, b⟩, q'⟩
    · exact q.elim
def fOp (o : OF) (fs : TAF) : TF := fun ρ Q => fs ρ fun os ρ1 => withR ρ1 os fun ts => o ts fun t => Q (.val t) ρ1
/-- the layer's reading of an operation follows from ours -/
def OpOk (K : PySem.W.Frag) (o : OF) (r : RV) : Prop := ∀ ts vs H (Q : VK) (R : T → Prop), BReps K H ts vs → o ts R →
  (∀ v H' t ws, Same H H' → (∀ b ∈ ws, H b = none) → ws.Nodup → RepT K H' t v ws → R t → Q v H') → r vs H Q
theorem op_core {K : PySem.W.Frag} {o : OF} {r : RV} {fs : TAF} {σ : St} {H : Hp} {Q : VK} (ok : OpOk K o r) (h : tO K (fOp o fs) σ H Q) : tAO K fs σ H fun vs H1 => r vs H1 Q := by
  obtain ⟨P, ρ, W, R, G, q, k⟩ := h
  refine ⟨P, ρ, W, _, G, q, fun vs H1 os ρ1 ⟨ws, W1, st, nd, sr, rp⟩ h1 => ?_⟩
  obtain ⟨ts, b, h2⟩ := withR_ok sr rp h1
  have st1 := st.drop
  refine ok ts vs H1 Q _ b h2 fun v H2 t ws2 sm fr n2 rt ht => k _ _ (.val t) _ ⟨ws2, W1, st1.fresh sm fr G.mut, Step.new_nd sr.mut fr n2 (nd_right nd), ?_, rt⟩ ht
  exact sr.after (W0 := []) (fun b o h _ => sm b o h) (fun b hb => by simp at hb) (fun b _ => by simp) (fun b _ => by simp)
theorem ve_bin {op : Operator} {r2 : R2} {o : OF} (ho : OpR X (binaryOp op) r2) (ok : OpOk X.K o fun vs H Q => ∃ x y, vs = [x, y] ∧ r2 x y H Q) (ha : VE X a fa) (hb : VE X b fb) : VE X (.BinOp a op b pos) (fOp o (fCons fa (fCons fb fNil))) :=
  (pe_op ho ha hb).pwi fun σ H Q h => tO_mono (two_core (op_core ok h)) fun x H1 h1 => tO_mono h1 fun y H2 ⟨x', y', e, h2⟩ => by
    injection e with e1 e2; injection e2 with e2 _; subst e1 e2; exact h2
theorem ve_cmp {op : CmpOp} {r2 : R2} {o : OF} (ho : OpR X (compareOp op) r2) (ok : OpOk X.K o fun vs H Q => ∃ x y, vs = [x, y] ∧ r2 x y H Q) (ha : VE X a fa) (hb : VE X b fb) (hm : behindInMarks op b = false) : VE X (.Compare a [op] [b] pos) (fOp o (fCons fa (fCons fb fNil))) :=
  (pe_cmpR ho ha hb hm).pwi fun σ H Q h => tO_mono (two_core (op_core ok h)) fun x H1 h1 => tO_mono h1 fun y H2 ⟨x', y', e, h2⟩ => by
    injection e with e1 e2; injection e2 with e2 _; subst e1 e2; exact h2
theorem ve_un {op : UnaryOp} {r : V → Hp → VK → Prop} {o : OF} (ho : UnR X (unaryOp op) r) (ok : OpOk X.K o fun vs H Q => ∃ x, vs = [x] ∧ r x H Q) (ha : VE X a fa) : VE X (.UnaryOp op a pos) (fOp o (fCons fa fNil)) :=
  (pe_un ho ha).pwi fun σ H Q h => tO_mono (one_core (op_core ok h)) fun x H1 ⟨x', e, h2⟩ => by
    injection e with e1 _; subst e1; exact h2
theorem ve_ix {r2 : R2} {o : OF} (ho : IxR X r2) (ok : OpOk X.K o fun vs H Q => ∃ x y, vs = [x, y] ∧ r2 x y H Q) (ha : VE X a fa) (hb : VE X b fb) (hs : PlainIx b) : VE X (.Subscript a b pos) (fOp o (fCons fa (fCons fb fNil))) :=
  (pe_ix ho ha hb hs).pwi fun σ H Q h => tO_mono (two_core (op_core ok h)) fun x H1 h1 => tO_mono h1 fun y H2 ⟨x', y', e, h2⟩ => by
    injection e with e1 e2; injection e2 with e2 _; subst e1 e2; exact h2
/-- a built-in function, by its name -/
theorem ve_callB {x : Str} {p : Pos} {id : String} {r : RV} {o : OF} (hc : CallR X (.builtin id) r) (ok : OpOk X.K o r) (hg : Gl X x) (hm : X.mg x = none) (hv : bootBuiltins x = some (.builtin id)) (ha : VA X (e :: es) fs) (hn : x ≠ "__name__" := by decide) (hdb : (x == ("__debug__" : Str)) = false := by decide)
    (he : starEach (e :: es) X.env = (false, eval e X.env) :: starEach es X.env := by rfl) (hpl : (backTo pos (starEach es X.env)).any (·.1) = false := by rfl) : VE X (.Call (.Name x p) (e :: es) [] pos) (fOp o fs) :=
  (pe_callB hc hg hm hv ha hn hdb he hpl).pwi fun σ H Q h => op_core ok h
theorem ve_callTy {x : Str} {p : Pos} {id : String} {r : RV} {o : OF} (hc : CallR X (.type id) r) (ok : OpOk X.K o r) (hg : Gl X x) (hm : X.mg x = none) (hv : bootBuiltins x = some (.type id)) (ha : VA X (e :: es) fs) (hn : x ≠ "__name__" := by decide) (hdb : (x == ("__debug__" : Str)) = false := by decide)
    (he : starEach (e :: es) X.env = (false, eval e X.env) :: starEach es X.env := by rfl) (hpl : (backTo pos (starEach es X.env)).any (·.1) = false := by rfl) : VE X (.Call (.Name x p) (e :: es) [] pos) (fOp o fs) :=
  (pe_callTy hc hg hm hv ha hn hdb he hpl).pwi fun σ H Q h => op_core ok h
/-- a tuple of data, a list of data -/
def datas : List T → Option (List D)
  | [] => some []
  | .d x :: ts => match datas ts with
    | some xs => some (x :: xs)
    | none => none
  | _ :: _ => none
theorem datas_eq : ∀ {ts : List T} {xs : List D}, datas ts = some xs → ts = xs.map T.d
  | [], xs, h => by cases h; rfl
  | .d x :: ts, xs, h => by
    unfold datas at h
    split at h
    · rename_i ys e
      cases h
      rw [datas_eq e]; rfl
    · cases h
  | .ls _ :: _, _, h => by cases h
  | .lt _ :: _, _, h => by cases h
  | .dk _ :: _, _, h => by cases h
  | .tp _ :: _, _, h => by cases h
def oTup : OF := fun ts R => match datas ts with
  | some xs => xs.length ≤ sizeLine ∧ R (.d (.tuple xs))
  | none => False
def oLst : OF := fun ts R => match datas ts with
  | some xs => xs.length ≤ sizeLine ∧ R (.ls xs)
  | none => False
theorem breps_d {K : PySem.W.Frag} {H : Hp} : ∀ {xs : List D} {vs : List V}, BReps K H (xs.map T.d) vs → RepDs K H xs vs
  | [], _, h => h
  | _ :: _, _, ⟨v, r, ws, e, h, g⟩ => ⟨v, r, e, h.1, breps_d g⟩
theorem same_upd {H : Hp} {p : Addr} {o : HO} (h : H p = none) : Same H (upd H p o) := fun b x e => by
  rw [upd_ne (ne_of_none e h)]
  exact e
theorem ok_tup {K : PySem.W.Frag} : OpOk K oTup fun vs H Q => vs.length ≤ sizeLine ∧ ∀ p, H p = none → Q (.ref p) (upd H p (.tup vs)) := by
  intro ts vs H Q R b h k
  unfold oTup at h
  split at h
  rotate_left
  · exact h.elim
  rename_i xs hx
  obtain ⟨hz, hR⟩ := h
  have hx := datas_eq hx
  subst hx
  have rp := breps_d b
  refine ⟨by rw [rp.length]; exact hz, fun p hp => k _ _ (.d (.tuple xs)) [] (same_upd hp) (by simp) (by simp) ⟨⟨p, vs, rfl, .inl (.inl upd_same), rp.keep (.same (same_upd hp))⟩, rfl⟩ hR⟩
theorem ok_lst {K : PySem.W.Frag} : OpOk K oLst fun vs H Q => vs.length ≤ sizeLine ∧ ∀ p, H p = none → Q (.ref p) (upd H p (.lst vs)) := by
  intro ts vs H Q R b h k
  unfold oLst at h
  split at h
  rotate_left
  · exact h.elim
  rename_i xs hx
  obtain ⟨hz, hR⟩ := h
  have hx := datas_eq hx
  subst hx
  have rp := breps_d b
  refine ⟨by rw [rp.length]; exact hz, fun p hp => k _ _ (.ls xs) [p] (same_upd hp) (fun b hb => ?_) (by simp) ⟨p, vs, rfl, upd_same, rp.keep (.same (same_upd hp)), rfl⟩ hR⟩
  have : b = p := by simpa using hb
  subst this; exact hp
theorem ve_tup {x1 : Nat} (h : VA X es fs) : VE X (.Tuple es x1 pos) (fOp oTup fs) := (pe_tup h).pwi fun σ H Q q => op_core ok_tup q
theorem ve_lst (h : VA X es fs) : VE X (.List es pos) (fOp oLst fs) := (pe_lst h).pwi fun σ H Q q => op_core ok_lst q

/-! ### tests -/
def fTest (f : TF) : TTF := fun ρ Q => f ρ fun o ρ1 => match o with
  | .val (.d (.bool k)) => Q k ρ1
  | _ => False
def fAnd (f g : TTF) : TTF := fun ρ Q => f ρ fun c ρ1 => if c = true then g ρ1 Q else Q false ρ1
def fOr (f g : TTF) : TTF := fun ρ Q => f ρ fun c ρ1 => if c = true then Q true ρ1 else g ρ1 Q
def fNot (f : TTF) : TTF := fun ρ Q => f ρ fun c ρ1 => Q (!c) ρ1
def fIfE (t : TTF) (f g : TF) : TF := fun ρ Q => t ρ fun c ρ1 => if c = true then f ρ1 Q else g ρ1 Q
/-- a test's value -/
def fOfT (f : TTF) : TF := fun ρ Q => f ρ fun c ρ1 => Q (.val (.d (.bool c))) ρ1
variable {ta tb : TTF}
theorem ResT.of {K : PySem.W.Frag} {P : Addr → Prop} {H H' : Hp} {σ : St} {W : List Addr} {ρ : List Slot} {v : V} {o : Opv} {ρ' : List Slot} (G : Good K P H ρ σ W) (r : Res K P H σ W v H' o ρ') : ResT K P H σ W H' ρ' :=
  let ⟨ws, W1, G1, st, nd, rp⟩ := r.good G
  ⟨W1, st.drop, G1⟩
theorem ResT.step {K : PySem.W.Frag} {P : Addr → Prop} {H H1 : Hp} {σ : St} {W : List Addr} {ρ1 : List Slot} (r : ResT K P H σ W H1 ρ1) : ∃ W1, Good K P H1 ρ1 σ W1 ∧ ∀ H2 ρ2, ResT K P H1 σ W1 H2 ρ2 → ResT K P H σ W H2 ρ2 := by
  obtain ⟨W1, st, G1⟩ := r
  refine ⟨W1, G1, fun H2 ρ2 ⟨W2, st2, G2⟩ => ⟨W2, ?_, G2⟩⟩
  have := st.trans (ws := []) st2 (by simpa using G1.nd)
  simpa using this
theorem test_core {K : PySem.W.Frag} {f : TF} {σ : St} {H : Hp} {Q : Bool → Hp → Prop} (h : tTO K (fTest f) σ H Q) : tO K f σ H fun x H' => ∃ k, x = .bl k ∧ Q k H' := by
  obtain ⟨P, ρ, W, R, G, q, k⟩ := h
  refine ⟨P, ρ, W, _, G, q, fun v H' o ρ' r hq => ?_⟩
  split at hq
  rotate_left
  · exact hq.elim
  rename_i c
  have r' := r
  obtain ⟨ws, W1, st, nd, sr, rp⟩ := r
  have rp : RepD K H' (.bool c) v ∧ ws = [] := rp
  exact ⟨c, rp.1, k _ _ _ (.of G r') hq⟩
theorem vt_cmp {op : CmpOp} {r2 : R2} {o : OF} (ho : OpR X (compareOp op) r2) (ok : OpOk X.K o fun vs H Q => ∃ x y, vs = [x, y] ∧ r2 x y H Q) (ha : VE X a fa) (hb : VE X b fb) (hm : behindInMarks op b = false) : VT X (.Compare a [op] [b] pos) (fTest (fOp o (fCons fa (fCons fb fNil)))) :=
  (pt_cmpR ho ha hb hm).pwi fun σ H Q h => tO_mono (two_core (op_core ok (test_core h))) fun x H1 h1 => tO_mono h1 fun y H2 ⟨x', y', e, h2⟩ => by
    injection e with e1 e2; injection e2 with e2 _; subst e1 e2; exact h2
theorem vt_val (h : VE X e f) (he : ∀ whole, isTrue e X.env whole = (do let v ← whole; standAt e.pos; holding [v] (truthy v)) := by intro _; rfl) : VT X e (fTest f) :=
  (pt_val h he).pwi fun σ H Q h => test_core h
theorem tTO_mono {K : PySem.W.Frag} {f : TTF} {σ : St} {H : Hp} {Q Q' : Bool → Hp → Prop} (h : tTO K f σ H Q) (i : ∀ v H', Q v H' → Q' v H') : tTO K f σ H Q' :=
  let ⟨P, ρ, W, R, G, q, k⟩ := h
  ⟨P, ρ, W, R, G, q, fun v H' ρ' r hr => i _ _ (k v H' ρ' r hr)⟩
theorem and_core {K : PySem.W.Frag} {σ : St} {H : Hp} {Q : Bool → Hp → Prop} (h : tTO K (fAnd ta tb) σ H Q) : tTO K ta σ H fun c H1 => if c = true then tTO K tb σ H1 Q else Q false H1 := by
  obtain ⟨P, ρ, W, R, G, q, k⟩ := h
  refine ⟨P, ρ, W, _, G, q, fun c H1 ρ1 r1 h1 => ?_⟩
  obtain ⟨W1, G1, cont⟩ := r1.step
  cases c with
  | true =>
    rw [if_pos rfl] at h1 ⊢
    exact ⟨P, ρ1, W1, R, G1, h1, fun b H2 ρ2 r2 h2 => k _ _ _ (cont _ _ r2) h2⟩
  | false =>
    rw [if_neg Bool.false_ne_true] at h1 ⊢
    exact k _ _ _ r1 h1
theorem or_core {K : PySem.W.Frag} {σ : St} {H : Hp} {Q : Bool → Hp → Prop} (h : tTO K (fOr ta tb) σ H Q) : tTO K ta σ H fun c H1 => if c = true then Q true H1 else tTO K tb σ H1 Q := by
  obtain ⟨P, ρ, W, R, G, q, k⟩ := h
  refine ⟨P, ρ, W, _, G, q, fun c H1 ρ1 r1 h1 => ?_⟩
  obtain ⟨W1, G1, cont⟩ := r1.step
  cases c with
  | true =>
    rw [if_pos rfl] at h1 ⊢
    exact k _ _ _ r1 h1
  | false =>
    rw [if_neg Bool.false_ne_true] at h1 ⊢
    exact ⟨P, ρ1, W1, R, G1, h1, fun b H2 ρ2 r2 h2 => k _ _ _ (cont _ _ r2) h2⟩
def VW (X : Cx) (e : Expr) (f : TTF) : Prop := PW X e (tTO X.K f)
theorem vw_and1 (ha : VT X a ta) : VW X (.BoolOp .And [a] pos) ta := pw_and1 ha
theorem vw_or1 (ha : VT X a ta) : VW X (.BoolOp .Or [a] pos) ta := pw_or1 ha
theorem _root_.L2.PW.pwi {t t' : TT} (h : PW X e t) (i : ∀ σ H Q, t' σ H Q → t σ H Q) : PW X e t' := ⟨fun wh pins s σ H Q I q => h.run wh pins s σ H Q I (i σ H Q q)⟩
theorem vw_and (ha : VT X a ta) (hb : VW X (.BoolOp .And (b :: es) pos) tb) : VW X (.BoolOp .And (a :: b :: es) pos) (fAnd ta tb) := PW.pwi (pw_and ha hb) fun σ H Q h => and_core h
theorem vw_or (ha : VT X a ta) (hb : VW X (.BoolOp .Or (b :: es) pos) tb) : VW X (.BoolOp .Or (a :: b :: es) pos) (fOr ta tb) := PW.pwi (pw_or ha hb) fun σ H Q h => or_core h
theorem vt_w (h : VW X e ta) : VT X e ta := PW.pt h
theorem vt_not (ha : VT X a ta) : VT X (.UnaryOp .Not a pos) (fNot ta) := (pt_not ha).pwi fun σ H Q ⟨P, ρ, W, R, G, q, k⟩ => ⟨P, ρ, W, _, G, q, fun c H1 ρ1 r1 h1 => k _ _ _ r1 h1⟩
theorem ve_ifE (hc : VT X c ta) (ha : VE X a fa) (hb : VE X b fb) : VE X (.IfExp c a b pos) (fIfE ta fa fb) := (pe_ifExp hc ha hb).pwi fun σ H Q ⟨P, ρ, W, R, G, q, k⟩ => by
  refine ⟨P, ρ, W, _, G, q, fun c H1 ρ1 r1 h1 => ?_⟩
  obtain ⟨W1, st, G1⟩ := r1
  have go : ∀ {f : TF}, f ρ1 R → tO X.K f σ H1 Q := fun hf => ⟨P, ρ1, W1, R, G1, hf, fun v H2 o ρ2 ⟨ws, W2, st2, nd2, sr2, rp2⟩ h2 => k _ _ _ _ ⟨ws, W2, by simpa using st.trans (ws := []) st2 (by simpa using G1.nd), nd2, sr2, rp2⟩ h2⟩
  cases c with
  | true => rw [if_pos rfl] at h1 ⊢; exact go h1
  | false => rw [if_neg Bool.false_ne_true] at h1 ⊢; exact go h1
end
end PW
end PwC
section PwD
set_option maxRecDepth 100000
/-! PwD: statements: blocks, names stored, tests, returns, targets, loops, changes of lists. -/
namespace PW
open PySem PySem.Spec L2
open PyProof.Rows hiding St

theorem _root_.L2.PS.pwI {X : Cx} {st : Stmt} {t t' : TS} (h : PS X st t) (i : ∀ pins s D σ H, Inv X pins σ H s → t' D σ H → t D σ H) : PS X st t' := ⟨fun pins s σ H D I q => h.run pins s σ H D I (i pins s D σ H I q)⟩
theorem _root_.L2.PG.pwI {X : Cx} {e : Expr} {t t' : TG} (h : PG X e t) (i : ∀ pins s v σ H Q, Inv X pins σ H s → t' v σ H Q → t v σ H Q) : PG X e t' := ⟨fun pins s σ H v u Q I r q => h.run pins s σ H v u Q I r (i pins s v σ H Q I q)⟩

section
variable {K : PySem.W.Frag} {P : Addr → Prop} {fx : List Nat} {H H1 : Hp} {σ : St} {W : List Addr} {ρ ρ1 : List Slot}
theorem ResS.refl (G : Good K P H ρ σ W) : ResS K P fx H σ W σ H ρ := ⟨W, Step.refl _ _, G, .refl⟩
theorem ResS.step {σ1 : St} (r : ResS K P fx H σ W σ1 H1 ρ1) : ∃ W1, Good K P H1 ρ1 σ1 W1 ∧ (∀ σ2 H2 ρ2, ResS K P fx H1 σ1 W1 σ2 H2 ρ2 → ResS K P fx H σ W σ2 H2 ρ2) ∧ (∀ v H2 t ρ2, ResR K P fx H1 σ1 W1 v H2 t ρ2 → ResR K P fx H σ W v H2 t ρ2) := by
  obtain ⟨W1, st, G1, hx⟩ := r
  refine ⟨W1, G1, fun σ2 H2 ρ2 ⟨W2, st2, G2, hx2⟩ => ⟨W2, ?_, G2, hx.trans hx2⟩, fun v H2 t ρ2 ⟨ws, W2, σ2, st2, nd2, sr2, rp2, hx2⟩ => ⟨ws, W2, σ2, ?_, nd2, sr2, rp2, hx.trans hx2⟩⟩
  · simpa using st.trans (ws := []) st2 (by simpa using G1.nd)
  · simpa using st.trans (ws := []) st2 (by simpa using G1.nd)
theorem Res.toS {v : V} {o : Opv} (G : Good K P H ρ σ W) (r : Res K P H σ W v H1 o ρ1) : ResS K P fx H σ W σ H1 ρ1 :=
  let ⟨ws, W1, G1, st, nd, rp⟩ := r.good G
  ⟨W1, st.drop, G1, .refl⟩
theorem ResT.toS (r : ResT K P H σ W H1 ρ1) : ResS K P fx H σ W σ H1 ρ1 :=
  let ⟨W1, st, G1⟩ := r
  ⟨W1, st, G1, .refl⟩
theorem set_other {α : Type} {l : List α} {i j : Nat} {x : α} (h : i ≠ j) : (l.set i x)[j]? = l[j]? := List.getElem?_set_ne h
theorem put_core {W1 ws : List Addr} {v : V} {t : T} {i : Nat} {σ0 : St} (ap : ∀ b, P b → b ∉ ws ++ W1 ∧ ∃ o, H1 b = some o) (st : Step W (ws ++ W1) H H1) (nd : (ws ++ W1).Nodup) (sr : SR K P H1 ρ1 σ0 W1) (rp : RepT K H1 t v ws) (hi : i < σ0.length) (hf : i ∉ fx) (hx : Fx fx σ σ0) :
    ResS K P fx H σ W (σ0.set i (some v)) H1 (ρ1.set i (.own t)) := by
  obtain ⟨W2, sr2, m, n⟩ := sr.put nd (by rw [← sr.len]; exact hi) rp
  exact ⟨W2, ⟨st.keep, fun b hb => st.new b (m b hb)⟩, ⟨sr2, n, fun b hb => ⟨fun z => (ap b hb).1 (m b z), (ap b hb).2⟩⟩, hx.set hf⟩
/-- a slot forgotten -/
theorem SR.kill : ∀ {ρ : List Slot} {σ : St} {W : List Addr} (i : Nat), SR K P H ρ σ W → ∃ W', SR K P H (ρ.set i .un) σ W' ∧ W'.Sublist W
  | [], _, _, _, h => ⟨[], by simpa [SR] using h.1, by simp⟩
  | .un :: ρ, _, W, 0, ⟨o, r, e, h⟩ => ⟨W, ⟨o, r, e, h⟩, List.Sublist.refl _⟩
  | .own t :: ρ, _, W, 0, ⟨v, r, w1, w2, e, h, t', ew⟩ => ⟨w2, ⟨some v, r, e, t'⟩, by rw [ew]; exact List.sublist_append_right _ _⟩
  | .hid t :: ρ, _, W, 0, ⟨v, r, w, e, h, hn, t'⟩ => ⟨W, ⟨some v, r, e, t'⟩, List.Sublist.refl _⟩
  | .un :: ρ, _, W, i + 1, ⟨o, r, e, h⟩ => let ⟨W', g, m⟩ := SR.kill i h; ⟨W', ⟨o, r, e, g⟩, m⟩
  | .own t :: ρ, _, W, i + 1, ⟨v, r, w1, w2, e, h, t', ew⟩ => let ⟨W', g, m⟩ := SR.kill i t'; ⟨w1 ++ W', ⟨v, r, w1, W', e, h, g, rfl⟩, by rw [ew]; exact List.Sublist.append (List.Sublist.refl _) m⟩
  | .hid t :: ρ, _, W, i + 1, ⟨v, r, w, e, h, hn, t'⟩ => let ⟨W', g, m⟩ := SR.kill i t'; ⟨W', ⟨v, r, w, e, h, hn, g⟩, m⟩
def killS : List Nat → List Slot → List Slot
  | [], ρ => ρ
  | i :: is, ρ => killS is (ρ.set i .un)
theorem ResS.kill {σ1 : St} : ∀ (is : List Nat) {ρ1 : List Slot}, ResS K P fx H σ W σ1 H1 ρ1 → ResS K P fx H σ W σ1 H1 (killS is ρ1)
  | [], _, h => h
  | i :: is, ρ1, ⟨W1, st, G1, hx⟩ => by
    obtain ⟨W2, sr2, m⟩ := G1.sr.kill i
    exact ResS.kill is ⟨W2, ⟨st.keep, fun b hb => st.new b (m.subset hb)⟩, ⟨sr2, G1.nd.sublist m, fun b hb => ⟨fun z => (G1.ap b hb).1 (m.subset z), (G1.ap b hb).2⟩⟩, hx⟩
end

section
variable {X : Cx} {fx : List Nat} {e tg : Expr} {es : List Expr} {st : Stmt} {sts body : List Stmt} {pos : Pos} {f fa fb : TF} {fs : TAF} {s r sa sb : SF} {t : TTF} {i : Nat}

/-! ### blocks -/
def bNil : SF := fun E ρ => E.nx ρ
def bCons (s r : SF) : SF := fun E ρ => s { E with nx := fun ρ1 => r E ρ1 } ρ
def bKill (is : List Nat) (r : SF) : SF := fun E ρ => r E (killS is ρ)
/-- the ways of a branching meet: what is known there is said -/
def bCut (I : List Slot → Prop) (s r : SF) : SF := fun E ρ => s { E with nx := I } ρ ∧ ∀ ρ1, I ρ1 → r E ρ1
theorem vss_nil : VSs X fx [] bNil := PSs.pwi pss_nil fun D σ H ⟨P, ρ, W, E, G, q, k1, k2, k3, k4⟩ => k1 _ _ _ (.refl G) q
/-- going on from a state behind a part -/
theorem sO_from {K : PySem.W.Frag} {P : Addr → Prop} {H H1 : Hp} {σ σ1 : St} {W : List Addr} {ρ1 : List Slot} {f : SF} {E : Es} {D : Ends} (rs : ResS K P fx H σ W σ1 H1 ρ1) (h : f E ρ1)
    (k1 : ∀ σ' H' ρ', ResS K P fx H σ W σ' H' ρ' → E.nx ρ' → D.nx σ' H') (k2 : ∀ v H' t ρ', ResR K P fx H σ W v H' t ρ' → E.rt t ρ' → D.rt v H')
    (k3 : ∀ σ' H' ρ', ResS K P fx H σ W σ' H' ρ' → E.bk ρ' → D.bk σ' H') (k4 : ∀ σ' H' ρ', ResS K P fx H σ W σ' H' ρ' → E.ct ρ' → D.ct σ' H') : sO K fx f D σ1 H1 := by
  obtain ⟨W1, G1, c1, c2⟩ := rs.step
  exact ⟨P, ρ1, W1, E, G1, h, fun _ _ _ r => k1 _ _ _ (c1 _ _ _ r), fun _ _ _ _ r => k2 _ _ _ _ (c2 _ _ _ _ r), fun _ _ _ r => k3 _ _ _ (c1 _ _ _ r), fun _ _ _ r => k4 _ _ _ (c1 _ _ _ r)⟩
theorem vss_cons (h1 : VS X fx st s) (h2 : VSs X fx sts r) : VSs X fx (st :: sts) (bCons s r) := PSs.pwi (pss_cons h1 h2) fun D σ H ⟨P, ρ, W, E, G, q, k1, k2, k3, k4⟩ =>
  ⟨P, ρ, W, _, G, q, fun σ1 H1 ρ1 rs h => sO_from rs h k1 k2 k3 k4, k2, k3, k4⟩
theorem vss_kill (is : List Nat) (h : VSs X fx sts r) : VSs X fx sts (bKill is r) := PSs.pwi h fun D σ H ⟨P, ρ, W, E, G, q, k1, k2, k3, k4⟩ =>
  sO_from (ResS.kill is (.refl G)) q k1 k2 k3 k4
theorem vss_cut (I : List Slot → Prop) (h1 : VS X fx st s) (h2 : VSs X fx sts r) : VSs X fx (st :: sts) (bCut I s r) := PSs.pwi (pss_cons h1 h2) fun D σ H ⟨P, ρ, W, E, G, ⟨q, qI⟩, k1, k2, k3, k4⟩ =>
  ⟨P, ρ, W, _, G, q, fun σ1 H1 ρ1 rs h => sO_from rs (qI _ h) k1 k2 k3 k4, k2, k3, k4⟩

/-! ### small statements -/
def sPass : SF := fun E ρ => E.nx ρ
def sBrk : SF := fun E ρ => E.bk ρ
def sCnt : SF := fun E ρ => E.ct ρ
def sNever : SF := fun _ _ => False
def sDrop (f : TF) : SF := fun E ρ => f ρ fun _ ρ1 => E.nx ρ1
def sRet (f : TF) : SF := fun E ρ => f ρ fun o ρ1 => match o with
  | .val t => E.rt t ρ1
  | .slot _ => False
def sRetN : SF := fun E ρ => E.rt (.d .none) ρ
def sIf (t : TTF) (a b : SF) : SF := fun E ρ => t ρ fun c ρ1 => if c = true then a E ρ1 else b E ρ1
theorem vs_pass : VS X fx (.Pass pos) sPass := PS.pwi ps_pass fun D σ H ⟨P, ρ, W, E, G, q, k1, k2, k3, k4⟩ => k1 _ _ _ (.refl G) q
theorem vs_brk : VS X fx (.Break pos) sBrk := PS.pwi ps_break fun D σ H ⟨P, ρ, W, E, G, q, k1, k2, k3, k4⟩ => k3 _ _ _ (.refl G) q
theorem vs_cnt : VS X fx (.Continue pos) sCnt := PS.pwi ps_continue fun D σ H ⟨P, ρ, W, E, G, q, k1, k2, k3, k4⟩ => k4 _ _ _ (.refl G) q
theorem vs_never : VS X fx st sNever := PS.pwi ps_never fun D σ H ⟨P, ρ, W, E, G, q, k1, k2, k3, k4⟩ => q
theorem vss_never : VSs X fx sts sNever := PSs.pwi pss_never fun D σ H ⟨P, ρ, W, E, G, q, k1, k2, k3, k4⟩ => q
theorem vs_doc {x : Str} {j : Nat} {pos' : Pos} : VS X fx (.Expr (.Constant (.str x) j pos) pos') sPass := PS.pwi ps_doc fun D σ H ⟨P, ρ, W, E, G, q, k1, k2, k3, k4⟩ => k1 _ _ _ (.refl G) q
theorem vs_expr (h : VE X e f) (hs : swapsWith e none pos.line X.env = pure false := by rfl) : VS X fx (.Expr e pos) (sDrop f) := PS.pwi (ps_expr h hs) fun D σ H ⟨P, ρ, W, E, G, q, k1, k2, k3, k4⟩ =>
  ⟨P, ρ, W, _, G, q, fun v H1 o ρ1 r1 h1 => k1 _ _ _ (r1.toS G) h1⟩
theorem vs_ret (h : VE X e f) : VS X fx (.Return (some e) pos) (sRet f) := PS.pwi (ps_ret h) fun D σ H ⟨P, ρ, W, E, G, q, k1, k2, k3, k4⟩ =>
  ⟨P, ρ, W, _, G, q, fun v H1 o ρ1 r1 h1 => by
    obtain ⟨ws, W1, st, nd, sr, rp⟩ := r1
    cases o with
    | val t => exact k2 _ _ t ρ1 ⟨ws, W1, σ, st, nd, sr, rp, .refl⟩ h1
    | slot j => exact (show False from h1).elim⟩
theorem vs_retN : VS X fx (.Return none pos) sRetN := PS.pwi ps_retN fun D σ H ⟨P, ρ, W, E, G, q, k1, k2, k3, k4⟩ =>
  k2 _ _ (.d .none) ρ ⟨[], W, σ, Step.refl _ _, by simpa using G.nd, G.sr, ⟨rfl, rfl⟩, .refl⟩ q
theorem vs_if {c : Expr} {a b : List Stmt} (hc : VT X c t) (ha : VSs X fx a sa) (hb : VSs X fx b sb) : VS X fx (.If c a b pos) (sIf t sa sb) := PS.pwi (ps_if hc ha hb) fun D σ H ⟨P, ρ, W, E, G, q, k1, k2, k3, k4⟩ =>
  ⟨P, ρ, W, _, G, q, fun c H1 ρ1 r1 h1 => by
    cases c with
    | true => rw [if_pos rfl] at h1 ⊢; exact sO_from r1.toS h1 k1 k2 k3 k4
    | false => rw [if_neg Bool.false_ne_true] at h1 ⊢; exact sO_from r1.toS h1 k1 k2 k3 k4⟩

/-! ### targets -/
def gNm (i : Nat) : GF := fun t ρ R => R (ρ.set i (.own t))
abbrev GsF := List D → List Slot → (List Slot → Prop) → Prop
def gN : GsF := fun xs ρ R => xs = [] ∧ R ρ
def gC (g : GF) (gs : GsF) : GsF := fun xs ρ R => match xs with
  | x :: r => g (.d x) ρ fun ρ1 => gs r ρ1 R
  | [] => False
def gTp (n : Nat) (gs : GsF) : GF := fun t ρ R => match t with
  | .d (.tuple xs) => xs.length = n ∧ gs xs ρ R
  | _ => False
def gsO (K : PySem.W.Frag) (fx : List Nat) (g : GsF) : TGs := fun vs σ H Q => ∃ P ρ W xs R, Good K P H ρ σ W ∧ RepDs K H xs vs ∧ g xs ρ R ∧ ∀ σ' H' ρ', ResS K P fx H σ W σ' H' ρ' → R ρ' → Q σ' H'
def VGs (X : Cx) (fx : List Nat) (ts : List Expr) (g : GsF) : Prop := PGs X ts (gsO X.K fx g)
theorem _root_.L2.PGs.pwi {X : Cx} {ts : List Expr} {t t' : TGs} (h : PGs X ts t) (i : ∀ v σ H Q, t' v σ H Q → t v σ H Q) : PGs X ts t' := ⟨fun pins s σ H v u Q I r q => h.run pins s σ H v u Q I r (i v σ H Q q)⟩
theorem vg_nm (h : PG X e (gName i)) (hx : ∃ x, X.N[i]? = some x) (hf : i ∉ fx) : VG X fx e (gNm i) := PG.pwI h fun pins s v σ H Q I ⟨P, ρ, W, ws, t, R, sr, nd, ap, rp, q, k⟩ => by
  obtain ⟨x, hx⟩ := hx
  have hi : i < σ.length := by rw [I.len]; exact (List.getElem?_eq_some_iff.mp hx).1
  exact k _ _ _ (put_core ap (Step.refl _ _) nd sr rp hi hf .refl) q
theorem vgs_nil : VGs X fx [] gN := PGs.pwi pgs_nil fun vs σ H Q ⟨P, ρ, W, xs, R, G, rp, ⟨e, q⟩, k⟩ => by
  subst e
  exact ⟨rp, k _ _ _ (.refl G) q⟩
theorem vgs_cons {g : GF} {gs : GsF} (h1 : VG X fx e g) (h2 : VGs X fx es gs) (hs : (assignEach (e :: es) X.env).map (·.2) = assign e X.env :: (assignEach es X.env).map (·.2) := by rfl) : VGs X fx (e :: es) (gC g gs) :=
  PGs.pwi (pgs_cons h1 h2 hs) fun vs σ H Q ⟨P, ρ, W, xs, R, G, rp, q, k⟩ => by
    cases xs with
    | nil => exact (show False from q).elim
    | cons x r =>
      obtain ⟨v, vr, e, hv, hr⟩ := rp
      refine ⟨v, vr, e, P, ρ, W, [], .d x, _, G.sr, by simpa using G.nd, by simpa using G.ap, ⟨hv, rfl⟩, q, fun σ1 H1 ρ1 r1 h1 => ?_⟩
      obtain ⟨W1, st, G1, hx⟩ := r1
      have r1' : ResS X.K P fx H σ W σ1 H1 ρ1 := ⟨W1, by simpa using st, G1, hx⟩
      obtain ⟨W2, G2, c1, _⟩ := r1'.step
      refine ⟨P, ρ1, W2, r, R, G2, hr.keep ⟨fun b o h hb => st.keep b o h (by simpa using hb), fun b hb => G.mut b hb⟩, h1, fun _ _ _ r2 => k _ _ _ (c1 _ _ _ r2)⟩
theorem vg_tp {n k : Nat} {gs : GsF} (hc : X.calm = true) (h : VGs X fx es gs) (hn : (assignEach es X.env).length = n := by rfl) (hst : (assignEach es X.env).findIdx? (·.1) = none := by rfl) : VG X fx (.Tuple es k pos) (gTp n gs) :=
  PG.pwi (pg_tup hc h hn hst) fun v σ H Q ⟨P, ρ, W, ws, t, R, sr, nd, ap, rp, q, k⟩ => by
    unfold gTp at q
    split at q
    · rename_i xs
      obtain ⟨⟨a, vs, e, hs, hr⟩, ew⟩ := rp
      subst e ew
      refine ⟨a, vs, rfl, hs, by rw [hr.length]; exact q.1, P, ρ, W, xs, R, ⟨sr, by simpa using nd, by simpa using ap⟩, hr, q.2, fun σ' H' ρ' r1 h1 => k _ _ _ ?_ h1⟩
      simpa using r1
    · exact q.elim
/-- target = value -/
def sAsg (f : TF) (g : GF) : SF := fun E ρ => f ρ fun o ρ1 => match o with
  | .val t => g t ρ1 E.nx
  | .slot _ => False
theorem asg_core {K : PySem.W.Frag} {g : GF} {D : Ends} {σ : St} {H : Hp} (h : sO K fx (sAsg f g) D σ H) : tAsg (tO K f) (gO K fx g) D σ H := by
  obtain ⟨P, ρ, W, E, G, q, k1, k2, k3, k4⟩ := h
  refine ⟨P, ρ, W, _, G, q, fun v H1 o ρ1 r1 h1 => ?_⟩
  cases o with
  | slot j => exact (show False from h1).elim
  | val t =>
    obtain ⟨ws, W1, st, nd, sr, rp⟩ := r1
    refine ⟨P, ρ1, W1, ws, t, E.nx, sr, nd, G.apart st, rp, h1, fun σ2 H2 ρ2 r2 h2 => k1 _ _ _ ?_ h2⟩
    obtain ⟨W2, st2, G2, hx2⟩ := r2
    exact ⟨W2, by simpa using st.trans (ws := []) (W1 := ws ++ W1) st2 (by simpa using nd), G2, hx2⟩
theorem vs_asg {g : GF} (he : VE X e f) (hg : VG X fx tg g) (hs : swapsWithSole [tg] e pos.line X.env = pure false := by rfl) (hw : swappedStores [tg] e X.env = pure none := by rfl)
    (h1 : (assignEach [tg] X.env).map (·.2) = [assign tg X.env] := by rfl) : VS X fx (.Assign [tg] e pos) (sAsg f g) := PS.pwi (ps_asg he hg hs hw h1) fun D σ H h => asg_core h
/-- a, b = x, y: two local names -/
def sPar (i j : Nat) (fs : TAF) : SF := fun E ρ => fs ρ fun os ρ1 => match os with
  | [.val t, .val u] => E.nx ((ρ1.set i (.own t)).set j (.own u))
  | _ => False
theorem vs_par {j : Nat} {x y : Str} {a b : Expr} {px py pt : Pos} {kt k2 pt2} (hc : X.calm = true) (hN : X.N.Nodup) (hi : X.N[i]? = some x) (hj : X.N[j]? = some y) (hij : i ≠ j)
    (hx : X.env.scope.names.lookup x = some .local) (hy : X.env.scope.names.lookup y = some .local) (ha : VA X [a, b] fs)
    (hw : swappedStores [.Tuple [.Name x px, .Name y py] kt pt] (.Tuple [a, b] k2 pt2) X.env = pure (some [x, y])) (hfi : i ∉ fx) (hfj : j ∉ fx)
    (hs : swapsWithSole [.Tuple [.Name x px, .Name y py] kt pt] (.Tuple [a, b] k2 pt2) pos.line X.env = pure false := by rfl) :
    VS X fx (.Assign [.Tuple [.Name x px, .Name y py] kt pt] (.Tuple [a, b] k2 pt2) pos) (sPar i j fs) :=
  PS.pwI (ps_par hc hN hi hj hij hx hy ha hw hs) fun pins s D σ H I ⟨P, ρ, W, E, G, q, k1, k2, k3, k4⟩ => by
    have li : i < σ.length := by rw [I.len]; exact (List.getElem?_eq_some_iff.mp hi).1
    have lj : j < σ.length := by rw [I.len]; exact (List.getElem?_eq_some_iff.mp hj).1
    refine ⟨P, ρ, W, _, G, q, fun vs H1 os ρ1 ⟨ws, W1, st, nd, sr, rp⟩ h1 => ?_⟩
    match os, rp, h1 with
    | [.val t, .val u], ⟨v, r, w1, w2, e, hv, ⟨v2, r2, w3, w4, e2, hv2, ⟨e3, e4⟩, ew2⟩, ew⟩, h1 =>
      subst e e2 e3 e4 ew2 ew
      refine ⟨v, v2, rfl, ?_⟩
      have ap := G.apart st
      have nd1 : (w1 ++ (w3 ++ W1)).Nodup := by simpa [List.append_assoc] using nd
      have rp2 : RepT X.K H1 u v2 w3 := hv2
      have rp1 : RepT X.K H1 t v w1 := hv
      obtain ⟨W2, sr2, m2, n2⟩ := sr.put (i := i) (t := t) (v := v) (ws := w1) (nd1.sublist (List.Sublist.append (List.Sublist.refl _) (List.sublist_append_right _ _))) (by rw [← sr.len]; exact li) rp1
      have hd : ∀ b ∈ w3, b ∉ W2 := fun b hb z => by
        rcases List.mem_append.mp (m2 b z) with z | z
        · exact nd_apart nd1 b z (List.mem_append_left _ hb)
        · exact nd_apart (nd_right nd1) b hb z
      have st2 : Step W (w3 ++ W2) H H1 := ⟨st.keep, fun b hb => by
        rcases List.mem_append.mp hb with z | z
        · exact st.new b (by simp [z])
        · rcases List.mem_append.mp (m2 b z) with z | z <;> exact st.new b (by simp [z])⟩
      have := put_core (fx := fx) (σ := σ) (i := j) (v := v2) (t := u) (ρ1 := ρ1.set i (.own t)) (σ0 := σ.set i (some v)) (ws := w3) (W1 := W2) (W := W) (H := H)
        (fun b hb => ⟨fun z => by
          rcases List.mem_append.mp z with z | z
          · exact (ap b hb).1 (by simp [z])
          · rcases List.mem_append.mp (m2 b z) with z | z <;> exact (ap b hb).1 (by simp [z]), (ap b hb).2⟩) st2 (nd_mk (nd_left (nd_right nd1)) n2 hd) sr2 rp2 (by rw [List.length_set]; exact lj) hfj
        (Fx.refl.set hfi)
      exact k1 _ _ _ this h1
    | [], _, h1 => exact (show False from h1).elim
    | [_], _, h1 => exact (show False from (by cases ‹Opv› <;> exact h1)).elim
    | .slot _ :: _ :: _, _, h1 => exact (show False from h1).elim
    | .val _ :: .slot _ :: _, _, h1 => exact (show False from h1).elim
    | .val _ :: .val _ :: _ :: _, _, h1 => exact (show False from h1).elim
end
end PW
end PwD
section PwE
set_option maxRecDepth 100000
/-! PwE: loops, comprehensions, changes of lists, calls, defs. -/
namespace PW
open PySem PySem.Spec L2
open PyProof.Rows hiding St

/-! ### what is walked -/
abbrev IF := List Slot → (List D → List Slot → Prop) → Prop
/-- whatever is kept of H0 but W, the items come one by one -/
def Yld (K : PySem.W.Frag) (J : It) (H0 : Hp) (W : List Addr) (xs : List D) : Prop := ∀ H, (∀ b o, H0 b = some o → b ∉ W → H b = some o) →
  (∀ i, i < xs.length → J.go i H ∧ ∀ x H', J.yld i H x H' → Same H H' ∧ ∃ d, xs[i]? = some d ∧ RepD K H' d x) ∧ ∀ i, xs.length ≤ i → J.stop i H
def ResI (K : PySem.W.Frag) (P : Addr → Prop) (H : Hp) (σ : St) (W : List Addr) (J : It) (H' : Hp) (xs : List D) (ρ' : List Slot) : Prop :=
  ∃ W', Step W W' H H' ∧ Good K P H' ρ' σ W' ∧ Yld K J H' W' xs
def iO (K : PySem.W.Frag) (h : IF) : TI := fun σ H R => ∃ P ρ W Rq, Good K P H ρ σ W ∧ h ρ Rq ∧ ∀ J H' xs ρ', ResI K P H σ W J H' xs ρ' → Rq xs ρ' → R J H'
def VI (X : Cx) (tg it : Expr) (h : IF) : Prop := PI X tg it (iO X.K h)
theorem _root_.L2.PI.pwi {X : Cx} {tg it : Expr} {t t' : TI} (h : PI X tg it t) (i : ∀ σ H Q, t' σ H Q → t σ H Q) : PI X tg it t' := ⟨fun pins s σ H Q I q => h.run pins s σ H Q I (i σ H Q q)⟩

section
variable {X : Cx} {fx : List Nat} {e tg it elt : Expr} {es : List Expr} {st : Stmt} {sts body : List Stmt} {pos : Pos} {f fa fb : TF} {fs : TAF} {s r sb : SF} {t : TTF} {g : GF} {h : IF} {i : Nat}

def iLst (f : TF) : IF := fun ρ R => f ρ fun o ρ1 => match o with
  | .val (.ls xs) => R xs ρ1
  | .val (.d (.list xs)) => R xs ρ1
  | _ => False
def iTup (f : TF) : IF := fun ρ R => f ρ fun o ρ1 => match o with
  | .val (.d (.tuple xs)) => R xs ρ1
  | _ => False
theorem yld_list {K : PySem.W.Frag} {H0 : Hp} {W : List Addr} {a : Addr} {xs : List D} {vs : List V} (hs : (H0 a = some (.lst vs) ∧ a ∉ W) ∨ SqZ K H0 a vs) (rp : RepDs K H0 xs vs) (mu : ∀ b ∈ W, MutO H0 b) : Yld K (Itl K a) H0 W xs := fun H k => by
  have kp : Kept W H0 H := ⟨k, mu⟩
  have hs' : SqL K H a vs := by
    rcases hs with ⟨h, ha⟩ | h
    · exact .inl (.inl (k _ _ h ha))
    · exact (kp.sqZ h).l
  have rp' := rp.keep kp
  refine ⟨fun i hi => ⟨?_, fun x H' y => ?_⟩, fun i hi => ⟨vs, hs', by rw [rp.length]; exact hi⟩⟩
  · obtain ⟨v, hv, _⟩ := rp'.get (List.getElem?_eq_getElem hi)
    exact ⟨vs, v, hs', hv⟩
  · obtain ⟨e, y⟩ := y
    subst e
    obtain ⟨v, hv, hr⟩ := rp'.get (List.getElem?_eq_getElem hi)
    have := y vs hs'
    rw [hv] at this; cases this
    exact ⟨Same.refl _, _, List.getElem?_eq_getElem hi, hr⟩
theorem yld_tup {K : PySem.W.Frag} {H0 : Hp} {W : List Addr} {a : Addr} {xs : List D} {vs : List V} (hs : SqT K H0 a vs) (rp : RepDs K H0 xs vs) (mu : ∀ b ∈ W, MutO H0 b) : Yld K (Itt K a) H0 W xs := fun H k => by
  have kp : Kept W H0 H := ⟨k, mu⟩
  have hs' : SqT K H a vs := kp.sqT hs
  have rp' := rp.keep kp
  refine ⟨fun i hi => ⟨?_, fun x H' y => ?_⟩, fun i hi => ⟨vs, hs', by rw [rp.length]; exact hi⟩⟩
  · obtain ⟨v, hv, _⟩ := rp'.get (List.getElem?_eq_getElem hi)
    exact ⟨vs, v, hs', hv⟩
  · obtain ⟨e, y⟩ := y
    subst e
    obtain ⟨v, hv, hr⟩ := rp'.get (List.getElem?_eq_getElem hi)
    have := y vs hs'
    rw [hv] at this; cases this
    exact ⟨Same.refl _, _, List.getElem?_eq_getElem hi, hr⟩
theorem vi_lst (he : VE X it f) : VI X tg it (iLst f) := (pi_list he).pwi fun σ H R ⟨P, ρ, W, Rq, G, q, k⟩ => ⟨P, ρ, W, _, G, q, fun v H1 o ρ1 r1 h1 => by
  obtain ⟨ws, W1, G1, st, nd, rp⟩ := r1.good G
  split at h1
  · rename_i xs
    obtain ⟨a, vs, e, ha, hr, ew⟩ := rp
    subst e ew
    have na : a ∉ W1 := nd_apart nd a (by simp)
    exact ⟨a, rfl, ⟨vs, SqL.of ha⟩, k _ _ xs ρ1 ⟨W1, st.drop, G1, yld_list (.inl ⟨ha, na⟩) hr G1.mut⟩ h1⟩
  · rename_i xs
    obtain ⟨⟨a, vs, e, hs, hr⟩, ew⟩ := rp
    subst e ew
    exact ⟨a, rfl, ⟨vs, hs.l⟩, k _ _ xs ρ1 ⟨W1, st.drop, G1, yld_list (.inr hs) hr G1.mut⟩ h1⟩
  · exact h1.elim⟩
theorem vi_tup (he : VE X it f) : VI X tg it (iTup f) := (pi_tup he).pwi fun σ H R ⟨P, ρ, W, Rq, G, q, k⟩ => ⟨P, ρ, W, _, G, q, fun v H1 o ρ1 r1 h1 => by
  obtain ⟨ws, W1, G1, st, nd, rp⟩ := r1.good G
  split at h1
  · rename_i xs
    obtain ⟨⟨a, vs, e, hs, hr⟩, ew⟩ := rp
    subst e ew
    exact ⟨a, rfl, ⟨vs, hs⟩, k _ _ xs ρ1 ⟨W1, st.drop, G1, yld_tup hs hr G1.mut⟩ h1⟩
  · exact h1.elim⟩
/-- lo, lo + 1, .. n of them -/
def upto (lo : Int) : Nat → List D
  | 0 => []
  | n + 1 => .int lo :: upto (lo + 1) n
theorem upto_length : ∀ (n : Nat) (lo : Int), (upto lo n).length = n
  | 0, _ => rfl
  | n + 1, lo => by unfold upto; rw [List.length_cons, upto_length n]
theorem upto_get : ∀ (n : Nat) (lo : Int) (i : Nat), i < n → (upto lo n)[i]? = some (.int (lo + i))
  | 0, _, _, h => by omega
  | n + 1, lo, 0, _ => by simp [upto]
  | n + 1, lo, i + 1, h => by
    unfold upto
    rw [List.getElem?_cons_succ, upto_get n (lo + 1) i (by omega)]
    congr 2
    omega
theorem yld_range {K : PySem.W.Frag} {H0 : Hp} {W : List Addr} {lo : Int} {n : Nat} : Yld K (Itr lo n) H0 W (upto lo n) := fun H _ => by
  refine ⟨fun i hi => ⟨?_, fun x H' y => ?_⟩, fun i hi => ?_⟩
  · rw [upto_length] at hi; exact hi
  · obtain ⟨e, y⟩ := y
    subst e y
    rw [upto_length] at hi
    exact ⟨Same.refl _, _, upto_get n lo i hi, rfl⟩
  · rw [upto_length] at hi; exact hi
def iRg1 (fs : TAF) : IF := fun ρ R => fs ρ fun os ρ1 => match os with
  | [.val (.d (.int j))] => (-(2 ^ 62) ≤ j ∧ j < 2 ^ 62) ∧ R (upto 0 j.toNat) ρ1
  | _ => False
def iRg2 (fs : TAF) : IF := fun ρ R => fs ρ fun os ρ1 => match os with
  | [.val (.d (.int i)), .val (.d (.int j))] => (-(2 ^ 62) ≤ i ∧ i < 2 ^ 62 ∧ -(2 ^ 62) ≤ j ∧ j < 2 ^ 62) ∧ R (upto i (j - i).toNat) ρ1
  | _ => False
theorem ResA.good {K : PySem.W.Frag} {P : Addr → Prop} {H H1 : Hp} {W : List Addr} {σ : St} {ρ ρ' : List Slot} {vs : List V} {os : List Opv} (G : Good K P H ρ σ W) (r : ResA K P H σ W vs H1 os ρ') : ∃ ws W1, Good K P H1 ρ' σ W1 ∧ Step W (ws ++ W1) H H1 ∧ (ws ++ W1).Nodup ∧ RepOs K H1 σ os vs ws := by
  obtain ⟨ws, W1, st, nd, sr, rp⟩ := r
  exact ⟨ws, W1, ⟨sr, nd_right nd, G.apart st.drop⟩, st, nd, rp⟩
theorem vi_rg1 {a : Expr} {p : Pos} (hg : Gl X "range") (hm : X.mg "range" = none) (ha : VA X [a] fs) (hs : starEach [a] X.env = [(false, eval a X.env)] := by rfl) : VI X tg (.Call (.Name "range" p) [a] [] pos) (iRg1 fs) :=
  (pi_range1 hg hm ha hs).pwi fun σ H R ⟨P, ρ, W, Rq, G, q, k⟩ => ⟨P, ρ, W, _, G, q, fun vs H1 os ρ1 r1 h1 => by
    obtain ⟨ws, W1, G1, st, nd, rp⟩ := r1.good G
    split at h1
    · rename_i j
      obtain ⟨v, r, w1, w2, e, ⟨hv, _⟩, ⟨e2, _⟩, _⟩ := rp
      have hv : v = .int j := hv
      subst e e2 hv
      exact ⟨j, rfl, h1.1.1, h1.1.2, k _ _ _ ρ1 ⟨W1, st.drop, G1, yld_range⟩ h1.2⟩
    · exact h1.elim⟩
theorem vi_rg2 {a b : Expr} {p : Pos} (hg : Gl X "range") (hm : X.mg "range" = none) (ha : VA X [a, b] fs) (hs : starEach [a, b] X.env = [(false, eval a X.env), (false, eval b X.env)] := by rfl) (hs2 : starEach [b] X.env = [(false, eval b X.env)] := by rfl) : VI X tg (.Call (.Name "range" p) [a, b] [] pos) (iRg2 fs) :=
  (pi_range2 hg hm ha hs hs2).pwi fun σ H R ⟨P, ρ, W, Rq, G, q, k⟩ => ⟨P, ρ, W, _, G, q, fun vs H1 os ρ1 r1 h1 => by
    obtain ⟨ws, W1, G1, st, nd, rp⟩ := r1.good G
    split at h1
    · rename_i i j
      obtain ⟨v, r, w1, w2, e, ⟨hv, _⟩, ⟨v2, r2, w3, w4, e2, ⟨hv2, _⟩, ⟨e3, _⟩, _⟩, _⟩ := rp
      have hv : v = .int i := hv
      have hv2 : v2 = .int j := hv2
      subst e e2 hv hv2 e3
      exact ⟨i, j, rfl, h1.1, k _ _ _ ρ1 ⟨W1, st.drop, G1, yld_range⟩ h1.2⟩
    · exact h1.elim⟩

/-! ### for, while -/
def lp (g : GF) (sb : SF) (E : Es) : List D → List Slot → Prop
  | [], ρ => E.nx ρ
  | x :: xs, ρ => g (.d x) ρ fun ρ1 => sb { nx := lp g sb E xs, ct := lp g sb E xs, bk := E.nx, rt := E.rt } ρ1
def sFor (h : IF) (g : GF) (sb : SF) : SF := fun E ρ => h ρ fun xs ρ1 => lp g sb E xs ρ1
theorem vs_for (hp : PassesOwn (model X.prog X.w) X.A X.env X.xe) (hc : X.calm = true) (hi : VI X tg it h) (hg : VG X fx tg g) (hb : VSs X fx body sb) (hs : ∀ x, foldedSetIterable it X.env x = pure x := by intro _; rfl) :
    VS X fx (.For tg it body [] pos) (sFor h g sb) := PS.pwi (ps_for hp hc hi hg hb hs) fun D σ H ⟨P, ρ, W, E, G, q, k1, k2, k3, k4⟩ => ⟨P, ρ, W, _, G, q, fun J H1 xs ρ1 ⟨W1, st1, G1, yl⟩ h1 => by
  have R0 : ∀ {σ2 : St} {H2 : Hp} {ρ2 : List Slot}, ResS X.K P fx H1 σ W1 σ2 H2 ρ2 → ResS X.K P fx H σ W σ2 H2 ρ2 := fun {σ2 H2 ρ2} r => by
    have r0 : ResS X.K P fx H σ W σ H1 ρ1 := ⟨W1, st1, G1, .refl⟩
    obtain ⟨W2, st2, G2, hx⟩ := r
    exact ⟨W2, by simpa using st1.trans (ws := []) st2 (by simpa using G1.nd), G2, hx⟩
  have R1 : ∀ {v : V} {H2 : Hp} {t : T} {ρ2 : List Slot}, ResR X.K P fx H1 σ W1 v H2 t ρ2 → ResR X.K P fx H σ W v H2 t ρ2 := fun {v H2 t ρ2} ⟨ws, W2, σ2, st2, nd2, sr2, rp2, hx⟩ =>
    ⟨ws, W2, σ2, by simpa using st1.trans (ws := []) st2 (by simpa using G1.nd), nd2, sr2, rp2, hx⟩
  refine ⟨fun i m σ' H' => m = xs.length - i ∧ i ≤ xs.length ∧ ∃ ρ', ResS X.K P fx H1 σ W1 σ' H' ρ' ∧ lp g sb E (xs.drop i) ρ', ⟨xs.length, by simp, Nat.zero_le _, ρ1, .refl G1, by simpa using h1⟩, ?_⟩
  rintro i m σ' H' ⟨rfl, hi, ρ', rs, hl⟩
  obtain ⟨W2, st2, G2, hx2⟩ := id rs
  obtain ⟨yi, ys⟩ := yl H' st2.keep
  by_cases hlt : i < xs.length
  · obtain ⟨go, yd⟩ := yi i hlt
    refine .inr ⟨go, fun σ2 H2 => ∃ ρ2, ResS X.K P fx H1 σ W1 σ2 H2 ρ2 ∧ lp g sb E (xs.drop (i + 1)) ρ2, fun σ2 H2 ⟨ρ2, r2, l2⟩ => ⟨xs.length - (i + 1), by omega, rfl, hlt, ρ2, r2, l2⟩, fun x H3 y => ?_⟩
    obtain ⟨sm, d, hd, rd⟩ := yd x H3 y
    have G3 : Good X.K P H3 ρ' σ' W2 := ⟨G2.sr.after (W0 := []) (fun b o h _ => sm b o h) (by simp) (by simp) (by simp), G2.nd, fun b hb => ⟨(G2.ap b hb).1, let ⟨o, e⟩ := (G2.ap b hb).2; ⟨o, sm _ _ e⟩⟩⟩
    have r3 : ResS X.K P fx H1 σ W1 σ' H3 ρ' := ⟨W2, ⟨fun b o h hb => sm b o (st2.keep b o h hb), st2.new⟩, G3, hx2⟩
    rw [List.drop_eq_getElem_cons hlt] at hl
    have : xs[i] = d := by rw [List.getElem?_eq_getElem hlt] at hd; exact Option.some.inj hd
    rw [this] at hl
    refine ⟨P, ρ', W2, [], .d d, _, G3.sr, by simpa using G3.nd, by simpa using G3.ap, ⟨rd, rfl⟩, hl, fun σ4 H4 ρ4 r4 h4 => ?_⟩
    have r4' : ResS X.K P fx H1 σ W1 σ4 H4 ρ4 := by
      obtain ⟨W4, c1, c2, c3⟩ := r3.step
      obtain ⟨W5, st5, G5, hx5⟩ := r4
      obtain ⟨W3, st3, G3', hx3⟩ := r3
      refine ⟨W5, ?_, G5, hx2.trans hx5⟩
      have st6 : Step W1 W2 H1 H3 := ⟨fun b o h hb => sm b o (st2.keep b o h hb), st2.new⟩
      simpa using st6.trans (ws := []) (by simpa using st5) (by simpa using G3.nd)
    exact sO_from r4' h4 (fun σ5 H5 ρ5 r5 h5 => ⟨ρ5, r5, h5⟩) (fun v H5 t ρ5 r5 h5 => k2 _ _ _ _ (R1 r5) h5) (fun σ5 H5 ρ5 r5 h5 => k1 _ _ _ (R0 r5) h5) (fun σ5 H5 ρ5 r5 h5 => ⟨ρ5, r5, h5⟩)
  · have e : xs.drop i = [] := List.drop_eq_nil_of_le (by omega)
    rw [e] at hl
    exact .inl ⟨ys i (by omega), k1 _ _ _ (R0 rs) hl⟩⟩
/-- I: what holds ahead of each test, with a number that falls -/
def sWhile (t : TTF) (sb : SF) : SF := fun E ρ => ∃ I : Nat → List Slot → Prop, (∃ m, I m ρ) ∧ ∀ m ρ1, I m ρ1 → t ρ1 fun c ρ2 =>
  if c = true then sb { nx := fun ρ3 => ∃ m', m' < m ∧ I m' ρ3, ct := fun ρ3 => ∃ m', m' < m ∧ I m' ρ3, bk := E.nx, rt := E.rt } ρ2 else E.nx ρ2
theorem vs_while {c : Expr} (hp : PassesOwn (model X.prog X.w) X.A X.env X.xe) (hc : VT X c t) (hb : VSs X fx body sb) : VS X fx (.While c body [] pos) (sWhile t sb) :=
  PS.pwi (ps_while hp hc hb) fun D σ H ⟨P, ρ, W, E, G, ⟨I, ⟨m0, i0⟩, turn⟩, k1, k2, k3, k4⟩ => by
    refine ⟨fun m σ' H' => ∃ ρ', ResS X.K P fx H σ W σ' H' ρ' ∧ I m ρ', ⟨m0, ρ, .refl G, i0⟩, ?_⟩
    rintro m σ' H' ⟨ρ', rs, hi⟩
    obtain ⟨W1, G1, c1, c2⟩ := rs.step
    refine ⟨P, ρ', W1, _, G1, turn m ρ' hi, fun b H2 ρ2 r2 h2 => ?_⟩
    have r2' : ResS X.K P fx H σ W σ' H2 ρ2 := c1 _ _ _ r2.toS
    cases b with
    | true =>
      rw [if_pos rfl] at h2
      refine iteT ⟨fun σ3 H3 => ∃ m', m' < m ∧ ∃ ρ3, ResS X.K P fx H σ W σ3 H3 ρ3 ∧ I m' ρ3, fun σ3 H3 ⟨m', hm, ρ3, r3, h3⟩ => ⟨m', hm, ρ3, r3, h3⟩, ?_⟩
      exact sO_from r2' h2 (fun σ5 H5 ρ5 r5 ⟨m', hm, h5⟩ => ⟨m', hm, ρ5, r5, h5⟩) (fun v H5 t ρ5 r5 h5 => k2 _ _ _ _ r5 h5) (fun σ5 H5 ρ5 r5 h5 => k1 _ _ _ r5 h5) (fun σ5 H5 ρ5 r5 ⟨m', hm, h5⟩ => ⟨m', hm, ρ5, r5, h5⟩)
    | false =>
      rw [if_neg Bool.false_ne_true] at h2
      exact iteF (k1 _ _ _ r2' h2)

/-! ### list comprehensions -/
def keepD : Slot → Slot
  | .own (.d x) => .own (.d x)
  | _ => .un
def ownsOf (ρ : List Slot) : List Nat → List (Nat × Slot)
  | [] => []
  | i :: is => (i, keepD (ρ.getD i .un)) :: ownsOf ρ is
def putBack : List (Nat × Slot) → List Slot → List Slot
  | [], ρ => ρ
  | (i, s) :: r, ρ => putBack r (ρ.set i s)
def lpC (vs : List Nat) (g : GF) (tt : TTF) (fe : TF) : List D → List D → List Slot → (List D → List Slot → Prop) → Prop
  | [], acc, ρ, Q => Q acc ρ
  | x :: xs, acc, ρ, Q => g (.d x) ρ fun ρ1 => tt ρ1 fun b ρ2 => if b = true then fe ρ2 fun o ρ3 => match o with
      | .val (.d y) => acc.length < sizeLine ∧ lpC vs g tt fe xs (acc ++ [y]) (killS vs ρ3) Q
      | _ => False
    else lpC vs g tt fe xs acc (killS vs ρ2) Q
def fLc (vs : List Nat) (h : IF) (g : GF) (tt : TTF) (fe : TF) : TF := fun ρ Q => h ρ fun xs ρ1 => lpC vs g tt fe xs [] (killS vs ρ1) fun ys ρ2 => Q (.val (.ls ys)) (putBack (ownsOf ρ1 vs) ρ2)
def tYesF : TTF := fun ρ Q => Q true ρ
/-- the slots but vs -/
def others (vs : List Nat) (n : Nat) : List Nat := (List.range n).filter fun i => !vs.contains i
theorem mem_others {vs : List Nat} {n i : Nat} : i ∈ others vs n ↔ i < n ∧ i ∉ vs := by
  unfold others
  rw [List.mem_filter, List.mem_range]
  simp
theorem SR.other {K : PySem.W.Frag} {P : Addr → Prop} {H : Hp} : ∀ {ρ : List Slot} {σ σ2 : St} {W : List Addr}, SR K P H ρ σ W → σ2.length = σ.length → (∀ i : Nat, σ2[i]? = σ[i]? ∨ ρ[i]? = some Slot.un) → SR K P H ρ σ2 W
  | [], σ, σ2, _, ⟨e, ew⟩, hl, _ => by
    subst e
    exact ⟨List.eq_nil_of_length_eq_zero hl, ew⟩
  | .un :: ρ, σ, σ2, W, ⟨o, r, e, h⟩, hl, hi => by
    subst e
    match σ2, hl with
    | o2 :: r2, hl => exact ⟨o2, r2, rfl, SR.other h (by simpa using hl) fun i => by simpa using hi (i + 1)⟩
  | .own t :: ρ, σ, σ2, W, ⟨v, r, w1, w2, e, q, h, ew⟩, hl, hi => by
    subst e
    match σ2, hl, hi with
    | o2 :: r2, hl, hi =>
      have h0 : o2 = some v := by simpa using hi 0
      subst h0
      exact ⟨v, r2, w1, w2, rfl, q, SR.other h (by simpa using hl) (fun i => by simpa using hi (i + 1)), ew⟩
  | .hid t :: ρ, σ, σ2, W, ⟨v, r, w, e, q, hn, h⟩, hl, hi => by
    subst e
    match σ2, hl, hi with
    | o2 :: r2, hl, hi =>
      have h0 : o2 = some v := by simpa using hi 0
      subst h0
      exact ⟨v, r2, w, rfl, q, hn, SR.other h (by simpa using hl) fun i => by simpa using hi (i + 1)⟩
theorem killS_length : ∀ (vs : List Nat) (ρ : List Slot), (killS vs ρ).length = ρ.length
  | [], _ => rfl
  | v :: vs, ρ => by unfold killS; rw [killS_length vs, List.length_set]
theorem killS_un : ∀ (vs : List Nat) (ρ : List Slot) (i : Nat), i < ρ.length → (i ∈ vs ∨ ρ[i]? = some Slot.un) → (killS vs ρ)[i]? = some Slot.un
  | [], ρ, i, _, h => by simpa [killS] using h
  | v :: vs, ρ, i, hl, h => by
    unfold killS
    refine killS_un vs _ i (by rw [List.length_set]; exact hl) ?_
    by_cases hv : v = i
    · subst hv; exact .inr (List.getElem?_set_self hl)
    · rcases h with h | h
      · rcases List.mem_cons.mp h with z | z
        · exact absurd z.symm hv
        · exact .inl z
      · exact .inr (by rw [List.getElem?_set_ne hv]; exact h)
theorem Good.killS {K : PySem.W.Frag} {P : Addr → Prop} {H : Hp} {ρ : List Slot} {σ : St} {W : List Addr} (vs : List Nat) (G : Good K P H ρ σ W) : ∃ W', Good K P H (killS vs ρ) σ W' ∧ ∀ b ∈ W', b ∈ W := by
  obtain ⟨W', st, G', _⟩ := ResS.kill (fx := []) vs (ResS.refl G)
  exact ⟨W', G', fun b hb => by
    rcases st.new b hb with z | z
    · exact z
    · obtain ⟨o, e⟩ := (G'.mut b hb).there
      rw [z] at e; cases e⟩
/-- between the frame's slots and a block's -/
theorem Good.swap {K : PySem.W.Frag} {P : Addr → Prop} {H : Hp} {ρ : List Slot} {σ σ2 : St} {W : List Addr} {vs : List Nat} (G : Good K P H (PW.killS vs ρ) σ W) (hl : σ2.length = σ.length) (h : ∀ i : Nat, i ∉ vs → σ2[i]? = σ[i]?) : Good K P H (PW.killS vs ρ) σ2 W :=
  ⟨G.sr.other hl fun i => by
    by_cases hi : i ∈ vs
    · by_cases hlt : i < ρ.length
      · exact .inr (killS_un vs ρ i hlt (.inl hi))
      · have e1 : σ.length = ρ.length := by rw [G.sr.len, killS_length]
        exact .inl (by rw [List.getElem?_eq_none (by omega), List.getElem?_eq_none (by omega)])
    · exact .inl (h i hi), G.nd, G.ap⟩
theorem Good.put0 {K : PySem.W.Frag} {P : Addr → Prop} {H H0 : Hp} {ρ0 : List Slot} {σ : St} {W0 : List Addr} (G0 : Good K P H0 ρ0 σ W0) (kp : Kept W0 H0 H) : ∀ (vs : List Nat) {ρ : List Slot} {W : List Addr}, Good K P H ρ σ W → ∃ W', Good K P H (putBack (ownsOf ρ0 vs) ρ) σ W' ∧ ∀ b ∈ W', b ∈ W
  | [], ρ, W, G => ⟨W, G, fun _ h => h⟩
  | i :: vs, ρ, W, G => by
    have go : ∃ W1, Good K P H (ρ.set i (keepD (ρ0.getD i .un))) σ W1 ∧ ∀ b ∈ W1, b ∈ W := by
      have dead : ∃ W1, Good K P H (ρ.set i .un) σ W1 ∧ ∀ b ∈ W1, b ∈ W := G.killS [i]
      cases q : ρ0[i]? with
      | none =>
        rw [List.getD_eq_getElem?_getD, q]
        exact dead
      | some s =>
        rw [List.getD_eq_getElem?_getD, q]
        show ∃ W1, Good K P H (ρ.set i (keepD s)) σ W1 ∧ ∀ b ∈ W1, b ∈ W
        unfold keepD
        split
        · rename_i x
          obtain ⟨v, ws, hv, hr, hw⟩ := G0.sr.read (.inl q)
          have hi : i < ρ.length := by rw [← G.sr.len]; exact (List.getElem?_eq_some_iff.mp hv).1
          obtain ⟨W2, sr2, m, n⟩ := G.sr.put (ws := []) (t := .d x) (v := v) (by simpa using G.nd) hi ⟨hr.keep kp, rfl⟩
          rw [set_same hv] at sr2
          exact ⟨W2, ⟨sr2, n, fun b hb => ⟨fun z => (G.ap b hb).1 (by simpa using m b z), (G.ap b hb).2⟩⟩, fun b hb => by simpa using m b hb⟩
        · exact dead
    obtain ⟨W1, G1, m1⟩ := go
    obtain ⟨W2, G2, m2⟩ := Good.put0 G0 kp vs G1
    exact ⟨W2, G2, fun b hb => m1 b (m2 b hb)⟩
theorem lc_red {K : PySem.W.Frag} {n : Nat} {vs : List Nat} {tt : TTF} {fe : TF} {σ : St} {H : Hp} {Q : VK} (hn : σ.length = n) (h0 : tO K (fLc vs h g tt fe) σ H Q) : tLc (iO K h) (gO K (others vs n) g) (tTO K tt) (tO K fe) vs σ H Q := by
  obtain ⟨P, ρ, W, R, G, q, k⟩ := h0
  refine ⟨P, ρ, W, _, G, q, fun J H1 xs ρ1 ⟨W1, st1, G1, yl⟩ h1 D hD => ?_⟩
  -- what holds ahead of a turn
  refine ⟨fun i m Hc => m = xs.length - i ∧ i ≤ xs.length ∧ ∃ acc accV ρc Wc, Hc D = some (.lst accV) ∧ RepDs K Hc acc accV ∧ Step W1 Wc H1 Hc ∧ Good K P Hc (killS vs ρc) (wipe σ vs) Wc ∧ D ∉ Wc ∧ lpC vs g tt fe (xs.drop i) acc (killS vs ρc) (fun ys ρ2 => R (.val (.ls ys)) (putBack (ownsOf ρ1 vs) ρ2)),
    ⟨xs.length, by simp, Nat.zero_le _, ?_⟩, ?_⟩
  · obtain ⟨W2, G2, m2⟩ := G1.killS vs
    have G3 := G2.swap (σ2 := wipe σ vs) (wipe_length σ vs) fun i hi => wipe_out hi
    have sm : Same H1 (upd H1 D (.lst [])) := same_upd hD
    refine ⟨[], [], ρ1, W2, upd_same, rfl, ⟨fun b o h _ => sm b o h, fun b hb => .inl (m2 b hb)⟩, ⟨G3.sr.after (W0 := []) (fun b o h _ => sm b o h) (by simp) (by simp) (by simp), G3.nd, fun b hb => ⟨(G3.ap b hb).1, let ⟨o, e⟩ := (G3.ap b hb).2; ⟨o, sm _ _ e⟩⟩⟩, fun z => ?_, by simpa using h1⟩
    obtain ⟨o, e⟩ := (G3.mut D z).there
    rw [hD] at e; cases e
  rintro i m Hc ⟨rfl, hi, acc, accV, ρc, Wc, hDc, rD, st2, G2, nD, hl⟩
  obtain ⟨yi, ys⟩ := yl Hc st2.keep
  have hP : ∀ b, P b → b ≠ D := fun b hb e => by
    obtain ⟨_, o, e2⟩ := G1.ap b hb
    rw [e, hD] at e2; cases e2
  by_cases hlt : i < xs.length
  · obtain ⟨go, yd⟩ := yi i hlt
    refine .inr ⟨go, fun H2 => ∃ acc accV ρc Wc, H2 D = some (.lst accV) ∧ RepDs K H2 acc accV ∧ Step W1 Wc H1 H2 ∧ Good K P H2 (killS vs ρc) (wipe σ vs) Wc ∧ D ∉ Wc ∧ lpC vs g tt fe (xs.drop (i + 1)) acc (killS vs ρc) (fun ys ρ2 => R (.val (.ls ys)) (putBack (ownsOf ρ1 vs) ρ2)),
      fun H2 hh => ⟨xs.length - (i + 1), by omega, rfl, hlt, hh⟩, fun x H3 y => ?_⟩
    obtain ⟨sm, d, hd, rd⟩ := yd x H3 y
    have G3 : Good K P H3 (killS vs ρc) (wipe σ vs) Wc := ⟨G2.sr.after (W0 := []) (fun b o h _ => sm b o h) (by simp) (by simp) (by simp), G2.nd, fun b hb => ⟨(G2.ap b hb).1, let ⟨o, e⟩ := (G2.ap b hb).2; ⟨o, sm _ _ e⟩⟩⟩
    rw [List.drop_eq_getElem_cons hlt] at hl
    have ed : xs[i] = d := by rw [List.getElem?_eq_getElem hlt] at hd; exact Option.some.inj hd
    rw [ed] at hl
    have nD3 : ∀ {Wz : List Addr} {Hz : Hp}, Step Wc Wz H3 Hz → D ∉ Wz := fun {Wz Hz} stz z => by
      rcases stz.new D z with z | z
      · exact nD z
      · rw [sm _ _ hDc] at z; cases z
    have stA : ∀ {Wz : List Addr} {Hz : Hp}, Step Wc Wz H3 Hz → Step W1 Wz H1 Hz := fun {Wz Hz} stz => by
      have st6 : Step W1 Wc H1 H3 := ⟨fun b o h hb => sm b o (st2.keep b o h hb), st2.new⟩
      simpa using st6.trans (ws := []) (by simpa using stz) (by simpa using G3.nd)
    have hDz : ∀ {Wz : List Addr} {Hz : Hp}, Step Wc Wz H3 Hz → Hz D = some (.lst accV) ∧ RepDs K Hz acc accV := fun {Wz Hz} stz =>
      ⟨stz.keep D _ (sm _ _ hDc) nD, (rD.keep (.same sm)).keep ⟨stz.keep, G3.mut⟩⟩
    refine ⟨P, killS vs ρc, Wc, [], .d d, _, G3.sr, by simpa using G3.nd, by simpa using G3.ap, ⟨rd, rfl⟩, hl, fun σ4 H4 ρ4 r4 h4 => ?_⟩
    obtain ⟨W4, st4, G4, fx4⟩ := r4
    have st4 : Step Wc W4 H3 H4 := by simpa using st4
    have e4 : ∀ j, j ∉ vs → σ4[j]? = (wipe σ vs)[j]? := fun j hj => by
      by_cases hjn : j < n
      · exact fx4.1 j (mem_others.mpr ⟨hjn, hj⟩)
      · have l1 : (wipe σ vs).length = n := by rw [wipe_length]; exact hn
        have l2 := fx4.2
        rw [List.getElem?_eq_none (by omega), List.getElem?_eq_none (by omega)]
    have w4 : wipe σ4 vs = wipe σ vs := by
      refine List.ext_getElem? fun j => ?_
      by_cases hj : j ∈ vs
      · have z : ∀ (τ : St) (us : List Nat), j ∈ us → j < τ.length → (wipe τ us)[j]? = some none := by
          intro τ us
          induction us with
          | nil => intro h; simp at h
          | cons u us ih =>
            intro h hlen
            unfold wipe
            by_cases hu : u = j
            · subst hu; exact List.getElem?_set_self (by rw [wipe_length]; exact hlen)
            · rw [List.getElem?_set_ne hu]
              exact ih (by rcases List.mem_cons.mp h with q | q; exact absurd q.symm hu; exact q) hlen
        have l2 : σ4.length = σ.length := by rw [fx4.2, wipe_length]
        by_cases hjl : j < σ.length
        · rw [z σ4 vs hj (by omega), z σ vs hj hjl]
        · rw [List.getElem?_eq_none (by rw [wipe_length]; omega), List.getElem?_eq_none (by rw [wipe_length]; omega)]
      · rw [wipe_out hj, e4 j hj]
    refine ⟨w4, P, ρ4, W4, _, G4, h4, fun b H5 ρ5 r5 h5 => ?_⟩
    obtain ⟨W5, st5, G5⟩ := r5
    have st5' : Step Wc W5 H3 H5 := by simpa using st4.trans (ws := []) (by simpa using st5) (by simpa using G4.nd)
    have back : ∀ {ρz : List Slot} {Hz : Hp} {Wz : List Addr}, Good K P Hz ρz σ4 Wz → ∃ Wy, Good K P Hz (killS vs ρz) (wipe σ vs) Wy ∧ ∀ b ∈ Wy, b ∈ Wz := fun {ρz Hz Wz} Gz => by
      obtain ⟨Wy, Gy, my⟩ := Gz.killS vs
      exact ⟨Wy, Gy.swap (by rw [fx4.2]) fun j hj => (e4 j hj).symm, my⟩
    cases b with
    | false =>
      rw [if_neg Bool.false_ne_true] at h5 ⊢
      obtain ⟨Wy, Gy, my⟩ := back G5
      have sty : Step Wc Wy H3 H5 := ⟨st5'.keep, fun b hb => st5'.new b (my b hb)⟩
      exact ⟨acc, accV, ρ5, Wy, (hDz sty).1, (hDz sty).2, stA sty, Gy, nD3 sty, h5⟩
    | true =>
      rw [if_pos rfl] at h5 ⊢
      refine ⟨P, ρ5, W5, _, G5, h5, fun v H6 o ρ6 r6 h6 => ?_⟩
      obtain ⟨ws6, W6, G6, st6, nd6, rp6⟩ := r6.good G5
      split at h6
      · rename_i yv
        obtain ⟨rv, ew⟩ := rp6
        subst ew
        have st6' : Step Wc W6 H3 H6 := by simpa using st5'.trans (ws := []) (by simpa using st6) (by simpa using G5.nd)
        obtain ⟨hD6, rD6⟩ := hDz st6'
        refine ⟨accV, hD6, by rw [rD6.length]; exact h6.1, ?_⟩
        obtain ⟨Wy, Gy, my⟩ := back G6
        have sty : Step Wc Wy H3 H6 := ⟨st6'.keep, fun b hb => st6'.new b (my b hb)⟩
        have nDy := nD3 sty
        have kD : Kept [D] H6 (upd H6 D (.lst (accV ++ [v]))) := ⟨fun b o h hb => by rw [upd_ne (by simpa using hb)]; exact h, fun b hb => by
          have : b = D := by simpa using hb
          subst this; exact .inl ⟨_, hD6⟩⟩
        refine ⟨acc ++ [yv], accV ++ [v], ρ6, Wy, upd_same, (rD6.keep kD).append (.one (rv.keep kD)), ?_, ⟨Gy.sr.after (W0 := [D]) kD.keep kD.mu (fun b hb => by simpa using hP b hb) (fun b hb z => ?_), Gy.nd, fun b hb => ⟨(Gy.ap b hb).1, let ⟨o, e⟩ := (Gy.ap b hb).2; ⟨o, by rw [upd_ne (hP b hb)]; exact e⟩⟩⟩, nDy, h6.2⟩
        · have s1 := stA sty
          refine ⟨fun b o h hb => ?_, s1.new⟩
          have : b ≠ D := fun e => by rw [e, hD] at h; cases h
          rw [upd_ne this]
          exact s1.keep b o h hb
        · have : b = D := by simpa using z
          subst this; exact nDy hb
      · exact h6.elim
  · have e : xs.drop i = [] := List.drop_eq_nil_of_le (by omega)
    rw [e] at hl
    refine .inl ⟨ys i (by omega), ?_⟩
    have G3 : Good K P Hc (killS vs ρc) σ Wc := G2.swap (by rw [wipe_length]) fun j hj => (wipe_out hj).symm
    obtain ⟨W4, G4, m4⟩ := Good.put0 G1 ⟨st2.keep, G1.mut⟩ vs G3
    have nD4 : D ∉ W4 := fun z => nD (m4 D z)
    refine k _ _ (.val (.ls acc)) _ ⟨[D], W4, ⟨fun b o h hb => st2.keep b o (st1.keep b o h hb) fun z => ?_, fun b hb => ?_⟩, nd_mk (by simp) G4.nd (by simpa using nD4), G4.sr, ⟨D, accV, rfl, hDc, rD, rfl⟩⟩ hl
    · rcases st1.new b z with z | z
      · exact hb z
      · rw [h] at z; cases z
    · rcases List.mem_append.mp hb with z | z
      · have : b = D := by simpa using z
        subst this
        by_cases hw : b ∈ W
        · exact .inl hw
        · refine .inr ?_
          cases q : H b with
          | none => rfl
          | some o => have := st1.keep b o q hw; rw [hD] at this; cases this
      · rcases st2.new b (m4 b z) with z | z
        · exact st1.new b z
        · by_cases hw : b ∈ W
          · exact .inl hw
          · refine .inr ?_
            cases q : H b with
            | none => rfl
            | some o => have := st1.keep b o q hw; rw [z] at this; cases this
def VTs (X : Cx) (ifs : List Expr) (t : TTF) : Prop := PTs X ifs (tTO X.K t)
theorem vts_nil : VTs X [] tYesF := ⟨fun pins s σ H Q I ⟨P, ρ, W, R, G, q, k⟩ => pts_nil.run pins s σ H Q I (k _ _ _ ⟨W, Step.refl _ _, G⟩ q)⟩
theorem vts_one {c : Expr} (hc : VT X c t) : VTs X [c] t := pts_one hc
theorem ve_lc {own : List (Str × Nat)} {scope : Scope} {ifs : List Expr} {tt : TTF} {fe : TF} {n : Nat} {vs : List Nat} (hn : X.N.length = n) (hv : own.map (·.2) = vs) (hc : X.calm = true) (hN : X.N.Nodup) (hi : VI X tg it h) (ok : BlkOk X.N X.env.scope scope own)
    (hg : ∀ (s : Shared) (H : Hp) (C : Addr) (cl : List (Str × Addr)) (fp : List Addr), VG (X.blk s H scope (compEnvC scope cl C X.env) fp) (others vs n) tg g) (ht : ∀ (s : Shared) (H : Hp) (C : Addr) (cl : List (Str × Addr)) (fp : List Addr), VTs (X.blk s H scope (compEnvC scope cl C X.env) fp) ifs tt)
    (he : ∀ (s : Shared) (H : Hp) (C : Addr) (cl : List (Str × Addr)) (fp : List Addr), VE (X.blk s H scope (compEnvC scope cl C X.env) fp) elt fe) (hs : ∀ x, foldedSetIterable it X.env x = pure x := by intro _; rfl) :
    VE X (.ListComp elt [⟨tg, it, ifs, 0⟩] scope pos) (fLc vs h g tt fe) := by
  subst hv
  have := pe_lc (pos := pos) (own := own) (g := gO X.K (others (own.map fun x : Str × Nat => x.2) n) g) (tt := tTO X.K tt) (te := tO X.K fe) hc hN hi ok hg ht he hs
  exact ⟨fun pins s σ H Q I q => this.run pins s σ H Q I (lc_red (by rw [I.len]; exact hn) q)⟩
theorem vs_setLc {own : List (Str × Nat)} {scope : Scope} {ifs : List Expr} {tt : TTF} {fe : TF} {n : Nat} {vs : List Nat} {y : Str} {py spos : Pos} (hn : X.N.length = n) (hv : own.map (·.2) = vs) (hf : i ∉ fx) (hc : X.calm = true) (hN : X.N.Nodup) (hy : X.N[i]? = some y) (hyl : X.env.scope.names.lookup y = some .local)
    (hsw : swapsWith (.ListComp elt [⟨tg, it, ifs, 0⟩] scope pos) (some (.Name y py)) spos.line X.env = pure true) (hi : VI X tg it h) (ok : BlkOk X.N X.env.scope scope own)
    (hg : ∀ (s : Shared) (H : Hp) (C : Addr) (cl : List (Str × Addr)) (fp : List Addr), VG (X.blk s H scope (compEnvC scope cl C X.env) fp) (others vs n) tg g) (ht : ∀ (s : Shared) (H : Hp) (C : Addr) (cl : List (Str × Addr)) (fp : List Addr), VTs (X.blk s H scope (compEnvC scope cl C X.env) fp) ifs tt)
    (he : ∀ (s : Shared) (H : Hp) (C : Addr) (cl : List (Str × Addr)) (fp : List Addr), VE (X.blk s H scope (compEnvC scope cl C X.env) fp) elt fe) (hs : ∀ x, foldedSetIterable it X.env x = pure x := by intro _; rfl) :
    VS X fx (.Assign [.Name y py] (.ListComp elt [⟨tg, it, ifs, 0⟩] scope pos) spos) (sAsg (fLc vs h g tt fe) (gNm i)) := by
  subst hv
  have := ps_setLc (i := i) (py := py) (spos := spos) (pos := pos) (own := own) (g := gO X.K (others (own.map fun x : Str × Nat => x.2) n) g) (tt := tTO X.K tt) (te := tO X.K fe) hc hN hy hyl hsw hi ok hg ht he hs
  refine ⟨fun pins s σ H D I q => this.run pins s σ H D I ?_⟩
  have hl : σ.length = n := by rw [I.len]; exact hn
  have q1 := asg_core q
  refine lc_red hl (tO_mono q1 fun v H1 ⟨P, ρ, W, ws, t, R, sr, nd, ap, rp, q, k⟩ => ?_)
  have hi' : i < σ.length := by rw [I.len]; exact (List.getElem?_eq_some_iff.mp hy).1
  exact k _ _ _ (put_core ap (Step.refl _ _) nd sr rp hi' hf .refl) q
end
end PW
end PwE
section PwF
set_option maxRecDepth 100000
/-! PwF: changes of lists, calls of defs, the rule of a def. -/
namespace PW
open PySem PySem.Spec L2
open PyProof.Rows hiding St

section
variable {X : Cx} {fx : List Nat} {e a b tg : Expr} {es : List Expr} {pos tpos : Pos} {f fa fb fi fe : TF} {fs : TAF} {i : Nat}

/-! ### lists changed -/
/-- the list, the operands; its answer and the list behind it -/
abbrev MF := List D → List T → (D → List D → Prop) → Prop
def MutOk (K : PySem.W.Frag) (m : MF) (r : V → List V → Hp → VK → Prop) : Prop := ∀ xs ts a xv vs H (Q : VK) (R : D → List D → Prop), H a = some (.lst xv) → RepDs K H xs xv → BReps K H ts vs → m xs ts R →
  (∀ v H' d ys yv, (∀ b o, H b = some o → b ≠ a → H' b = some o) → H' a = some (.lst yv) → RepDs K H' ys yv → RepD K H' d v → R d ys → Q v H') → r (.ref a) vs H Q
def fMut (i : Nat) (m : MF) (fs : TAF) : TF := fun ρ Q => match ρ[i]? with
  | some (.own (.ls _)) => fs ρ fun os ρ1 => match ρ1[i]? with
    | some (.own (.ls xs)) => withR ρ1 os fun ts => m xs ts fun d ys => Q (.val (.d d)) (ρ1.set i (.own (.ls ys)))
    | _ => False
  | _ => False
/-- the list in slot i becomes another -/
theorem ls_core {K : PySem.W.Frag} {P : Addr → Prop} {H H' : Hp} {ρ : List Slot} {σ : St} {W : List Addr} {xs ys : List D} {yv : List V} (G : Good K P H ρ σ W) (hx : ρ[i]? = some (.own (.ls xs))) {a : Addr} (hv : σ[i]? = some (some (.ref a)))
    (kp : ∀ b o, H b = some o → b ≠ a → H' b = some o) (ha : H' a = some (.lst yv)) (rp : RepDs K H' ys yv) : ∃ W', Step W W' H H' ∧ Good K P H' (ρ.set i (.own (.ls ys))) σ W' := by
  obtain ⟨v, ws, W1, hv', hr, sr, m, n⟩ := G.sr.pull hx
  obtain ⟨a', vs, e, h, r, ew⟩ := hr
  rw [hv] at hv'
  have e1 : a = a' := by injection hv' with z; injection z with z; rw [e] at z; injection z
  subst e1 ew
  have n' : ([a] ++ W1).Nodup := n G.nd
  have na : a ∉ W1 := nd_apart n' a (by simp)
  have k : Kept [a] H H' := ⟨fun b o hb hn => kp b o hb (by simpa using hn), fun b hb => by
    have : b = a := by simpa using hb
    subst this; exact .inl ⟨_, h⟩⟩
  have hP : ∀ b, P b → b ≠ a := fun b hb z => (G.ap b hb).1 ((m b).mpr (by simp [z]))
  have sr1 : SR K P H' (ρ.set i .un) σ W1 := sr.after (W0 := [a]) k.keep k.mu (fun b hb => by simpa using hP b hb) (fun b hb z => by
    have : b = a := by simpa using z
    subst this; exact na hb)
  have hi : i < (ρ.set i .un).length := by rw [List.length_set]; exact SR.lt hx
  obtain ⟨W2, sr2, m2, n2⟩ := sr1.put (ws := [a]) (t := .ls ys) (v := .ref a) n' hi ⟨a, yv, rfl, ha, rp, rfl⟩
  rw [List.set_set, set_same hv] at sr2
  have sub : ∀ b ∈ W2, b ∈ W := fun b hb => (m b).mpr (m2 b hb)
  exact ⟨W2, ⟨fun b o hb hn => kp b o hb fun z => hn ((m b).mpr (by simp [z])), fun b hb => .inl (sub b hb)⟩, sr2, n2, fun b hb => ⟨fun z => (G.ap b hb).1 (sub b z), let ⟨o, e⟩ := (G.ap b hb).2; ⟨o, kp b o e (hP b hb)⟩⟩⟩
theorem mut_core {K : PySem.W.Frag} {m : MF} {r : V → List V → Hp → VK → Prop} {σ : St} {H : Hp} {Q : VK} (ok : MutOk K m r) (h : tO K (fMut i m fs) σ H Q) :
    ∃ v, σ[i]? = some (some v) ∧ tyV K "list" v H ∧ tAO K fs σ H fun vs H1 => r v vs H1 Q := by
  obtain ⟨P, ρ, W, R, G, q, k⟩ := h
  unfold fMut at q
  split at q
  · rename_i xs0 hx
    obtain ⟨v, ws, hv, a, xv, e, ha, hr, _⟩ := G.sr.read (.inl hx)
    subst e
    refine ⟨_, hv, .inl ⟨rfl, _, SqL.of ha⟩, P, ρ, W, _, G, q, fun vs H1 os ρ1 r1 h1 => ?_⟩
    obtain ⟨ws1, W1, G1, st, nd, rp⟩ := r1.good G
    split at h1
    · rename_i xs hx1
      obtain ⟨v', ws', hv', a', xv', e', ha', hr', _⟩ := G1.sr.read (.inl hx1)
      have e1 : a = a' := by rw [hv] at hv'; injection hv' with z; injection z with z; rw [e'] at z; injection z
      subst e1
      obtain ⟨ts, bt, h2⟩ := withR_ok G1.sr rp h1
      refine ok xs ts a xv' vs H1 Q _ ha' hr' bt h2 fun v2 H2 d ys yv kp hy ry rd hR => ?_
      obtain ⟨W2, st2, G2⟩ := ls_core G1 hx1 hv kp hy ry
      refine k _ _ (.val (.d d)) _ ⟨[], W2, ?_, by simpa using G2.nd, G2.sr, ⟨rd, rfl⟩⟩ hR
      simpa using st.drop.trans (ws := []) (by simpa using st2) (by simpa using G1.nd)
    · exact h1.elim
  · exact q.elim
theorem ve_mut0 {name : Str} {id : String} {m : MF} {r : V → List V → Hp → VK → Prop} {apos cpos : Pos} (sl : PySem.Slot "list" name id) (hty : typeOf (.builtin id) = pure (.type "method_descriptor")) (hm : MtR X id r) (ok : MutOk X.K m r) (ho : PE X a (tVar i))
    (hbase : attributeBase a name X.env (eval a X.env) = eval a X.env := by rfl) (hline : (apos.endLine == cpos.line) = true := by rfl) : VE X (.Call (.Attribute a name apos) [] [] cpos) (fMut i m fNil) :=
  (pe_bm0 PySem.F.plainAttrs_list sl hty hm ho hbase hline).pwi fun σ H Q h => by
    obtain ⟨v, hv, ty, P, ρ, W, R, G, q, k⟩ := mut_core ok h
    exact ⟨v, hv, ty, k _ _ [] _ ⟨[], W, Step.refl _ _, by simpa using G.nd, G.sr, ⟨rfl, rfl⟩⟩ q⟩
theorem ve_mut {name : Str} {id : String} {m : MF} {r : V → List V → Hp → VK → Prop} {apos cpos : Pos} (sl : PySem.Slot "list" name id) (hty : typeOf (.builtin id) = pure (.type "method_descriptor")) (hm : MtR X id r) (ok : MutOk X.K m r) (ho : PE X a (tVar i)) (ha : VA X (e :: es) fs)
    (hbase : attributeBase a name X.env (eval a X.env) = eval a X.env := by rfl)
    (hfew : ((backTo cpos (starEach (e :: es) X.env)).all (fun x => !x.1) && (backToKw cpos (keywordEach [] X.env)).all (fun x => x.1.isSome)
      && decide ((e :: es).length + ([] : List Keyword).length + (if ([] : List Keyword).isEmpty then 0 else 1) < 30)) = true := by rfl)
    (hline : (apos.endLine == cpos.line) = true := by rfl) (hs : starEach (e :: es) X.env = (false, eval e X.env) :: starEach es X.env := by rfl) (hplain : (backTo cpos (starEach es X.env)).any (·.1) = false := by rfl) :
    VE X (.Call (.Attribute a name apos) (e :: es) [] cpos) (fMut i m fs) :=
  (pe_bm PySem.F.plainAttrs_list sl hty hm ho ha hbase hfew hline hs hplain).pwi fun σ H Q h => mut_core ok h
/-- a new list's items frozen: as an operand of an append -/
def fFz (f : TF) : TF := fun ρ Q => f ρ fun o ρ1 => match o with
  | .val (.d x) => Q (.val (.d x)) ρ1
  | .val (.ls xs) => Q (.val (.d (.list xs))) ρ1
  | _ => False
theorem ve_fz (h : VE X e f) : VE X e (fFz f) := by
  refine ⟨fun pins s σ H Q I ⟨P, ρ, W, R, G, q, k⟩ => ?_⟩
  refine thn (h.run pins s σ H (fun v H1 => ∃ o ρ1, Res X.K P H σ W v H1 o ρ1 ∧ (match o with
    | .val (.d x) => R (.val (.d x)) ρ1
    | .val (.ls xs) => R (.val (.d (.list xs))) ρ1
    | _ => False)) I ⟨P, ρ, W, _, G, q, fun v H1 o ρ1 r1 h1 => ⟨o, ρ1, r1, h1⟩⟩) fun u s1 ⟨v, H1, I1, r1, o, ρ1, rs, h1⟩ => ?_
  split at h1
  · exact ⟨v, H1, I1, r1, k _ _ _ _ rs h1⟩
  · rename_i xs
    obtain ⟨ws, W1, st, nd, sr, a, vs, e, ha, hr, ew⟩ := rs
    subst e ew
    obtain ⟨od, I2⟩ := I1.lock ha trivial
    have na : a ∉ W1 := nd_apart nd a (by simp)
    have ap := G.apart st
    have k1 : Kept [a] H1 (upd H1 a (.frz od (.lst vs))) := ⟨fun b o hb hn => by rw [upd_ne (by simpa using hn)]; exact hb, fun b hb => by
      have : b = a := by simpa using hb
      subst this; exact .inl ⟨_, ha⟩⟩
    refine ⟨_, _, I2, r1, k _ _ (.val (.d (.list xs))) _ ⟨[], W1, ⟨fun b o h hb => ?_, fun b hb => st.new b (List.mem_append_right _ hb)⟩, nd_right nd, sr.after (W0 := [a]) k1.keep k1.mu (fun b hb z => (ap b hb).1 (List.mem_append_left _ z)) (fun b hb z => by
      have : b = a := by simpa using z
      subst this; exact na hb), ⟨⟨a, vs, rfl, .inl ⟨od, upd_same⟩, hr.keep k1⟩, rfl⟩⟩ h1⟩
    have hne : b ≠ a := fun z => by
      rcases st.new a (by simp) with y | y
      · exact hb (by rw [z]; exact y)
      · rw [z, y] at h; cases h
    rw [upd_ne hne]
    exact st.keep b o h hb
  · exact h1.elim
/-- x[k] = e, x a list in slot i -/
def sSubL (i : Nat) (fi fe : TF) : SF := fun E ρ => fe ρ fun o ρ1 => match o with
  | .val (.d y) => match ρ1[i]? with
    | some (.own (.ls _)) => fi ρ1 fun o2 ρ2 => match o2 with
      | .val (.d (.int k)) => match ρ2[i]? with
        | some (.own (.ls xs)) => match ixN xs.length k with
          | some j => E.nx (ρ2.set i (.own (.ls (xs.set j y))))
          | none => False
        | _ => False
      | _ => False
    | _ => False
  | _ => False
theorem vs_subL (he : VE X e fe) (ho : PE X a (tVar i)) (hi : VE X b fi) (hs : swapsWithSole [.Subscript a b tpos] e pos.line X.env = pure false := by rfl) (hw : swappedStores [.Subscript a b tpos] e X.env = pure none := by rfl)
    (h1 : (assignEach [.Subscript a b tpos] X.env).map (·.2) = [assign (.Subscript a b tpos) X.env] := by rfl)
    (ha : ∀ v, assign (.Subscript a b tpos) X.env v = (do
      let ov ← holding [v] (eval a X.env)
      let iv ← holding [v, ov] (eval b X.env)
      standAt tpos
      holding [v, ov, iv] (setItem ov iv v)
      release [v, ov, iv] []) := by intro _; rfl) : VS X fx (.Assign [.Subscript a b tpos] e pos) (sSubL i fi fe) :=
  PS.pwi (ps_asg he (pg_sub ho hi set_list ha) hs hw h1) fun D σ H ⟨P, ρ, W, E, G, q, k1, k2, k3, k4⟩ => ⟨P, ρ, W, _, G, q, fun v H1 o ρ1 r1 h1 => by
    split at h1
    · rename_i y
      obtain ⟨ws, W1, G1, st, nd, rv, ew⟩ := r1.good G
      subst ew
      have hsl : ∃ xs0, ρ1[i]? = some (.own (.ls xs0)) := by
        split at h1
        · rename_i xs0 hx0; exact ⟨xs0, hx0⟩
        · exact h1.elim
      obtain ⟨xs0, hx0⟩ := hsl
      rw [hx0] at h1
      dsimp only at h1
      obtain ⟨av, _, hav, _⟩ := G1.sr.read (.inl hx0)
      refine ⟨av, hav, P, ρ1, W1, _, G1, h1, fun iv H2 o2 ρ2 r2 h2 => ?_⟩
      obtain ⟨ws2, W2, G2, st2, nd2, rp2⟩ := r2.good G1
      split at h2
      · rename_i k
        obtain ⟨ri, ew2⟩ := rp2
        have ri : iv = .int k := ri
        subst ri ew2
        split at h2
        · rename_i xs hx
          split at h2
          · rename_i j hj
            obtain ⟨v', ws', hv', a', xv, e', ha', hr', _⟩ := G2.sr.read (.inl hx)
            have e1 : av = .ref a' := by rw [hav] at hv'; injection hv' with z; injection z with z; rw [z, e']
            subst e1
            have rv2 : RepD X.K H2 y v := rv.keep ⟨by simpa using st2.keep, G1.mut⟩
            have kp : Kept [a'] H2 (upd H2 a' (.lst (xv.set j v))) := ⟨fun b o hb hn => by rw [upd_ne (by simpa using hn)]; exact hb, fun b hb => by
              have : b = a' := by simpa using hb
              subst this; exact .inl ⟨_, ha'⟩⟩
            refine ⟨a', xv, k, j, rfl, rfl, ha', by rw [hr'.length]; exact hj, ?_⟩
            obtain ⟨W3, st3, G3⟩ := ls_core (ys := xs.set j y) G2 hx hav (fun b o hb hn => by rw [upd_ne hn]; exact hb) upd_same ((hr'.set j rv2).keep kp)
            refine k1 _ _ _ ⟨W3, ?_, G3, .refl⟩ h2
            have s12 : Step W W2 H H2 := by simpa using st.trans (ws := []) (W1 := W1) (by simpa using st2) (by simpa using G1.nd)
            simpa using s12.trans (ws := []) (by simpa using st3) (by simpa using G2.nd)
          · exact h2.elim
        · exact h2.elim
      · exact h2.elim
    · exact h1.elim⟩
/-- x op= e, x an int -/
def sAugI (i : Nat) (op : Int → Int → (Int → Prop) → Prop) (f : TF) : SF := fun E ρ => match ρ[i]? with
  | some (.own (.d (.int j))) => f ρ fun o ρ1 => match o with
    | .val (.d (.int k)) => op j k fun z => E.nx (ρ1.set i (.own (.d (.int z))))
    | _ => False
  | _ => False
theorem vs_augI {x : Str} {op : Operator} {ti : TIp} {o : Int → Int → (Int → Prop) → Prop} {pos' : Pos} (hN : X.N.Nodup) (hx : X.N[i]? = some x) (hl : Loc X.env.scope x) (he : VE X e f) (ho : PIp X op ti)
    (ok : ∀ j k H (Q : VK) (R : Int → Prop), o j k R → (∀ z, R z → Q (.int z) H) → ti (.int j) (.int k) H Q) (hf : i ∉ fx) (hfn : X.fn x = true ∨ X.env.scope.names.lookup x = some .local := by first | exact .inl rfl | exact .inr rfl | assumption) :
    VS X fx (.AugAssign (.Name x pos') op e pos) (sAugI i o f) := PS.pwI (ps_aug hN hx hl he ho hfn) fun pins s D σ H I ⟨P, ρ, W, E, G, q, k1, k2, k3, k4⟩ => by
  unfold sAugI at q
  split at q
  · rename_i j hj
    obtain ⟨v, ws, hv, hr, _⟩ := G.sr.read (.inl hj)
    have hr : v = .int j := hr
    subst hr
    refine ⟨_, hv, P, ρ, W, _, G, q, fun y H1 o ρ1 r1 h1 => ?_⟩
    obtain ⟨ws1, W1, G1, st, nd, rp⟩ := r1.good G
    split at h1
    · rename_i k
      have ry : y = .int k := rp.1
      subst ry
      have hi : i < σ.length := (List.getElem?_eq_some_iff.mp hv).1
      refine ok j k H1 _ _ h1 fun z hz => k1 _ _ _ (put_core (ws := []) (W1 := W1) (t := .d (.int z)) (by simpa using G1.ap) (by simpa using st.drop) (by simpa using G1.nd) G1.sr ⟨rfl, rfl⟩ hi hf .refl) hz
    · exact h1.elim
  · exact q.elim

/-! ### defs -/
theorem hid_put {K : PySem.W.Frag} {P : Addr → Prop} {H : Hp} {t : T} {v : V} {w : List Addr} : ∀ {ρ : List Slot} {σ : St} {W : List Addr} {i : Nat}, SR K P H (ρ.set i .un) σ W → i < ρ.length → σ[i]? = some (some v) → RepT K H t v w → (∀ b ∈ w, P b) → SR K P H (ρ.set i (.hid t)) σ W
  | [], _, _, _, _, h, _, _, _ => by simp at h
  | _ :: ρ, _, W, 0, ⟨o, r, e, h⟩, _, hv, hr, hp => by
    subst e
    have : o = some v := by simpa using hv
    subst this
    exact ⟨v, r, w, rfl, hr, hp, h⟩
  | .un :: ρ, _, W, i + 1, ⟨o, r, e, h⟩, hi, hv, hr, hp => by
    subst e
    exact ⟨o, r, rfl, hid_put h (by simpa using hi) (by simpa using hv) hr hp⟩
  | .own _ :: ρ, _, W, i + 1, ⟨v0, r, w1, w2, e, q, h, ew⟩, hi, hv, hr, hp => by
    subst e
    exact ⟨v0, r, w1, w2, rfl, q, hid_put h (by simpa using hi) (by simpa using hv) hr hp, ew⟩
  | .hid _ :: ρ, _, W, i + 1, ⟨v0, r, w1, e, q, hq, h⟩, hi, hv, hr, hp => by
    subst e
    exact ⟨v0, r, w1, rfl, q, hq, hid_put h (by simpa using hi) (by simpa using hv) hr hp⟩
/-- the parameters' trees; the answer and the parameters' trees behind it -/
abbrev FS := List Slot → (T → List Slot → Prop) → Prop
def spO (K : PySem.W.Frag) (n : Nat) (S : FS) : Sp := fun vs H Q _ => vs.length = n ∧ ∃ P ss W R, Good K P H ss (vs.map some) W ∧ S ss R ∧
  ∀ r H' t fin ws W', Step W (ws ++ W') H H' → (ws ++ W').Nodup → SR K P H' fin (vs.map some) W' → RepT K H' t r ws → R t fin → Q r H'
/-- how operands go to parameters: by value, or lent -/
inductive Md where
  | v | l
def pass : List Md → List Opv → List Slot → (List Slot → List Slot → (List Slot → List Slot → List Slot) → Prop) → Prop
  | [], [], ρ, k => k [] ρ fun _ ρ1 => ρ1
  | .v :: ms, .val t :: os, ρ, k => pass ms os ρ fun ss ρ1 bk => k (.own t :: ss) ρ1 fun fin ρ2 => bk fin.tail ρ2
  | .l :: ms, .slot i :: os, ρ, k => match ρ[i]? with
    | some (.own t) => pass ms os (ρ.set i .un) fun ss ρ1 bk => k (.own t :: ss) ρ1 fun fin ρ2 => (bk fin.tail ρ2).set i (fin.headD .un)
    | _ => False
  | _, _, _, _ => False
theorem pass_ok {K : PySem.W.Frag} {P : Addr → Prop} {H : Hp} {σ : St} : ∀ {ms : List Md} {os : List Opv} {vs : List V} {ws : List Addr} {ρ : List Slot} {W : List Addr} {k : List Slot → List Slot → (List Slot → List Slot → List Slot) → Prop},
    SR K P H ρ σ W → RepOs K H σ os vs ws → (ws ++ W).Nodup → pass ms os ρ k → ∃ ss ρ1 bk Wc Wr, k ss ρ1 bk ∧ SR K P H ss (vs.map some) Wc ∧ SR K P H ρ1 σ Wr ∧ (Wc ++ Wr).Nodup ∧ (∀ b ∈ Wc ++ Wr, b ∈ ws ++ W) ∧
      ∀ fin H' Wf Wr', SR K P H' fin (vs.map some) Wf → SR K P H' ρ1 σ Wr' → (Wf ++ Wr').Nodup → ∃ W2, SR K P H' (bk fin ρ1) σ W2 ∧ W2.Nodup ∧ ∀ b ∈ W2, b ∈ Wf ++ Wr'
  | [], [], vs, ws, ρ, W, k, sr, rp, nd, q => by
    obtain ⟨e, ew⟩ := rp
    subst e ew
    exact ⟨[], ρ, _, [], W, q, ⟨rfl, rfl⟩, sr, by simpa using nd, fun b hb => by simpa using hb, fun fin H' Wf Wr' _ h n => ⟨Wr', h, nd_right n, fun b hb => List.mem_append_right _ hb⟩⟩
  | .v :: ms, .val t :: os, vs, ws, ρ, W, k, sr, rp, nd, q => by
    obtain ⟨v, r, w1, w2, e, hv, hr, ew⟩ := rp
    subst e ew
    have nd' : (w1 ++ (w2 ++ W)).Nodup := by rw [← List.append_assoc]; exact nd
    obtain ⟨ss, ρ1, bk, Wc, Wr, hk, s1, s2, n1, m1, back⟩ := pass_ok (ms := ms) (os := os) sr hr (nd_right nd') q
    have sub : ∀ b ∈ Wc ++ Wr, b ∈ w2 ++ W := m1
    refine ⟨.own t :: ss, ρ1, _, w1 ++ Wc, Wr, hk, ⟨v, r.map some, w1, Wc, rfl, hv, s1, rfl⟩, s2, ?_, fun b hb => ?_, fun fin H' Wf Wr' hf hr' n => ?_⟩
    · rw [List.append_assoc]
      exact nd_mk (nd_left nd') n1 fun x hx hy => nd_apart nd' x hx (sub x hy)
    · rw [List.append_assoc] at hb
      rw [List.append_assoc]
      rcases List.mem_append.mp hb with z | z
      · exact List.mem_append_left _ z
      · exact List.mem_append_right _ (sub b z)
    · have tl : ∃ Wt, SR K P H' fin.tail (r.map some) Wt ∧ Wt.Sublist Wf := by
        match fin, hf with
        | .un :: fin, ⟨o, r', e, h⟩ => injection e with _ e; subst e; exact ⟨Wf, h, List.Sublist.refl _⟩
        | .own u :: fin, ⟨v', r', a1, a2, e, _, h, ew⟩ => injection e with _ e; subst e; exact ⟨a2, h, by rw [ew]; exact List.sublist_append_right _ _⟩
        | .hid u :: fin, ⟨v', r', a1, e, _, _, h⟩ => injection e with _ e; subst e; exact ⟨Wf, h, List.Sublist.refl _⟩
      obtain ⟨Wt, ht, st⟩ := tl
      obtain ⟨W2, g, n2, m2⟩ := back fin.tail H' Wt Wr' ht hr' (n.sublist (List.Sublist.append st (List.Sublist.refl _)))
      exact ⟨W2, g, n2, fun b hb => (List.Sublist.append st (List.Sublist.refl _)).subset (m2 b hb)⟩
  | .l :: ms, .slot i :: os, vs, ws, ρ, W, k, sr, rp, nd, q => by
    obtain ⟨v, r, w1, w2, e, ⟨hv, e1⟩, hr, ew⟩ := rp
    subst e e1
    obtain rfl : ws = w2 := by simpa using ew
    unfold pass at q
    split at q
    · rename_i t hx
      obtain ⟨v', wi, W1, hv', hrt, sr1, m, n⟩ := sr.pull hx
      have ev : v = v' := by rw [hv] at hv'; injection hv' with z; injection z
      subst ev
      have nd0 : (ws ++ W).Nodup := by simpa using nd
      have n1 := n (nd_right nd0)
      have d1 : ∀ x ∈ ws, x ∉ wi ++ W1 := fun x hx hy => nd_apart nd0 x hx ((m x).mpr hy)
      obtain ⟨ss, ρ1, bk, Wc, Wr, hk, s1, s2, n2, m1, back⟩ := pass_ok (ms := ms) (os := os) sr1 hr (nd_mk (nd_left nd0) (nd_right n1) fun x hx hy => d1 x hx (List.mem_append_right _ hy)) q
      refine ⟨.own t :: ss, ρ1, _, wi ++ Wc, Wr, hk, ⟨v, r.map some, wi, Wc, rfl, hrt, s1, rfl⟩, s2, ?_, fun b hb => ?_, fun fin H' Wf Wr' hf hr' nf => ?_⟩
      · rw [List.append_assoc]
        refine nd_mk (nd_left n1) n2 fun x hx hy => ?_
        rcases List.mem_append.mp (m1 x hy) with z | z
        · exact d1 x z (List.mem_append_left _ hx)
        · exact nd_apart n1 x hx z
      · rw [List.append_assoc] at hb
        rcases List.mem_append.mp hb with z | z
        · simpa using Or.inr ((m b).mpr (List.mem_append_left _ z))
        · rcases List.mem_append.mp (m1 b z) with z | z
          · simpa using Or.inl z
          · simpa using Or.inr ((m b).mpr (List.mem_append_right _ z))
      · match fin, hf with
        | .un :: fin, ⟨o, r', e, h⟩ =>
          injection e with _ e; subst e
          obtain ⟨W2, g, n3, m3⟩ := back fin H' Wf Wr' h hr' nf
          obtain ⟨W3, g3, m4⟩ := g.kill i
          exact ⟨W3, g3, n3.sublist m4, fun b hb => m3 b (m4.subset hb)⟩
        | .own u :: fin, ⟨v', r', a1, a2, e, hu, h, ew⟩ =>
          injection e with e0 e; subst e
          injection e0 with e0
          subst e0 ew
          have nf' : (a1 ++ (a2 ++ Wr')).Nodup := by rw [← List.append_assoc]; exact nf
          obtain ⟨W2, g, n3, m3⟩ := back fin H' a2 Wr' h hr' (nd_right nf')
          have hi : i < (bk fin ρ1).length := by rw [← g.len]; exact (List.getElem?_eq_some_iff.mp hv).1
          obtain ⟨W3, g3, m4, n4⟩ := g.put (ws := a1) (t := u) (v := v) (nd_mk (nd_left nf') n3 fun x hx hy => nd_apart nf' x hx (m3 x hy)) hi hu
          rw [set_same hv] at g3
          refine ⟨W3, g3, n4, fun b hb => ?_⟩
          rw [List.append_assoc]
          rcases List.mem_append.mp (m4 b hb) with z | z
          · exact List.mem_append_left _ z
          · exact List.mem_append_right _ (m3 b z)
        | .hid u :: fin, ⟨v', r', a1, e, hu, hp, h⟩ =>
          injection e with e0 e; subst e
          injection e0 with e0
          subst e0
          obtain ⟨W2, g, n3, m3⟩ := back fin H' Wf Wr' h hr' nf
          have hi : i < (bk fin ρ1).length := by rw [← g.len]; exact (List.getElem?_eq_some_iff.mp hv).1
          obtain ⟨W3, g3, s3⟩ := g.kill i
          exact ⟨W3, hid_put g3 hi hv hu hp, n3.sublist s3, fun b hb => m3 b (s3.subset hb)⟩
    · exact q.elim
  | [], _ :: _, _, _, _, _, _, _, _, _, q => (show False from q).elim
  | .v :: _, [], _, _, _, _, _, _, _, _, q => (show False from q).elim
  | .l :: _, [], _, _, _, _, _, _, _, _, q => (show False from q).elim
  | .v :: _, .slot _ :: _, _, _, _, _, _, _, _, _, q => (show False from q).elim
  | .l :: _, .val _ :: _, _, _, _, _, _, _, _, _, q => (show False from q).elim
def fCall (S : FS) (ms : List Md) (dfs : List D) (fs : TAF) : TF := fun ρ Q => fs ρ fun os ρ1 => pass ms os ρ1 fun ss ρ2 bk => S (ss ++ dfs.map fun x => Slot.own (.d x)) fun t fin => Q (.val t) (bk (fin.take ms.length) ρ2)
theorem SR.app {K : PySem.W.Frag} {P : Addr → Prop} {H : Hp} {ds : List D} {dvs : List V} (rd : RepDs K H ds dvs) : ∀ {ss : List Slot} {σ : St} {W : List Addr}, SR K P H ss σ W → SR K P H (ss ++ ds.map fun x => Slot.own (.d x)) (σ ++ dvs.map some) W
  | [], _, _, ⟨e, ew⟩ => by
    subst e ew
    have go : ∀ {ds : List D} {dvs : List V}, RepDs K H ds dvs → SR K P H (ds.map fun x => Slot.own (.d x)) (dvs.map some) [] := by
      intro ds
      induction ds with
      | nil => intro dvs h; have h : dvs = [] := h; subst h; exact ⟨rfl, rfl⟩
      | cons x xs ih =>
        rintro dvs ⟨v, r, rfl, h, t⟩
        exact ⟨v, r.map some, [], [], rfl, ⟨h, rfl⟩, ih t, rfl⟩
    simpa using go rd
  | .un :: _, _, _, ⟨o, r, e, h⟩ => ⟨o, r ++ dvs.map some, by rw [e]; rfl, SR.app rd h⟩
  | .own t :: _, _, _, ⟨v, r, w1, w2, e, q, h, ew⟩ => ⟨v, r ++ dvs.map some, w1, w2, by rw [e]; rfl, q, SR.app rd h, ew⟩
  | .hid t :: _, _, _, ⟨v, r, w, e, q, hn, h⟩ => ⟨v, r ++ dvs.map some, w, by rw [e]; rfl, q, hn, SR.app rd h⟩
/-- the first parameters' part -/
theorem SR.front {K : PySem.W.Frag} {P : Addr → Prop} {H : Hp} : ∀ {n : Nat} {fin : List Slot} {σ : St} {W : List Addr}, SR K P H fin σ W → ∃ W1, SR K P H (fin.take n) (σ.take n) W1 ∧ W1.Sublist W
  | 0, fin, σ, W, _ => ⟨[], by simp [SR], List.nil_sublist _⟩
  | n + 1, [], σ, W, ⟨e, ew⟩ => by subst e ew; exact ⟨[], by simp [SR], List.Sublist.refl _⟩
  | n + 1, .un :: fin, σ, W, ⟨o, r, e, h⟩ => by
    subst e
    obtain ⟨W1, g, s⟩ := SR.front (n := n) h
    exact ⟨W1, ⟨o, r.take n, rfl, g⟩, s⟩
  | n + 1, .own t :: fin, σ, W, ⟨v, r, w1, w2, e, q, h, ew⟩ => by
    subst e ew
    obtain ⟨W1, g, s⟩ := SR.front (n := n) h
    exact ⟨w1 ++ W1, ⟨v, r.take n, w1, W1, rfl, q, g, rfl⟩, List.Sublist.append (List.Sublist.refl _) s⟩
  | n + 1, .hid t :: fin, σ, W, ⟨v, r, w, e, q, hn, h⟩ => by
    subst e
    obtain ⟨W1, g, s⟩ := SR.front (n := n) h
    exact ⟨W1, ⟨v, r.take n, w, rfl, q, hn, g⟩, s⟩
theorem pass_len {ms : List Md} : ∀ {os : List Opv} {ρ : List Slot} {k : List Slot → List Slot → (List Slot → List Slot → List Slot) → Prop}, pass ms os ρ k → os.length = ms.length := by
  induction ms with
  | nil =>
    intro os ρ k h
    cases os with
    | nil => rfl
    | cons o os => exact (show False from h).elim
  | cons m ms ih =>
    intro os ρ k h
    cases os with
    | nil => cases m <;> exact (show False from h).elim
    | cons o os =>
      cases m with
      | v =>
        cases o with
        | val t => rw [List.length_cons, List.length_cons, ih (show pass ms os ρ _ from h)]
        | slot i => exact (show False from h).elim
      | l =>
        cases o with
        | val t => exact (show False from h).elim
        | slot i =>
          unfold pass at h
          split at h
          · rw [List.length_cons, List.length_cons, ih h]
          · exact h.elim
theorem RepOs.length {K : PySem.W.Frag} {H : Hp} {σ : St} : ∀ {os : List Opv} {vs : List V} {ws : List Addr}, RepOs K H σ os vs ws → vs.length = os.length
  | [], _, _, h => by rw [h.1]; rfl
  | _ :: _, _, _, ⟨v, r, w1, w2, e, _, h, _⟩ => by rw [e, List.length_cons, List.length_cons, RepOs.length h]
theorem call_core {K : PySem.W.Frag} {S : FS} {ms : List Md} {ds : List D} {dvs : List V} {n : Nat} {E : XK} {σ : St} {H : Hp} {Q : VK} (rd : ∀ H, RepDs K H ds dvs) (hn : ms.length + ds.length = n) (h : tO K (fCall S ms ds fs) σ H Q) : tCall (spO K n S) dvs E (tAO K fs) σ H Q := by
  obtain ⟨P, ρ, W, R, G, q, k⟩ := h
  refine ⟨P, ρ, W, _, G, q, fun vs H1 os ρ1 r1 h1 => ?_⟩
  obtain ⟨ws, W1, G1, st, nd, rp⟩ := r1.good G
  have ap := G.apart st
  obtain ⟨ss, ρ2, bk, Wc, Wr, hk, s1, s2, n1, m1, back⟩ := pass_ok G1.sr rp nd h1
  have hvs : vs.length = ms.length := by rw [rp.length, pass_len h1]
  have hds : dvs.length = ds.length := (rd H).length
  refine ⟨by rw [List.length_append, hvs, hds]; exact hn, P, _, Wc, _, ⟨by rw [List.map_append]; exact SR.app (rd H1) s1, nd_left n1, fun b hb => ⟨fun z => (ap b hb).1 (m1 b (List.mem_append_left _ z)), (ap b hb).2⟩⟩, hk, fun r H2 t fin ws2 W2 st2 nd2 sr2 rp2 hR => ?_⟩
  have muC : ∀ b ∈ Wc, MutO H1 b := s1.mut
  have muR : ∀ b ∈ Wr, MutO H1 b := s2.mut
  -- the caller's rest
  have rest : SR K P H2 ρ2 σ Wr := s2.after (W0 := Wc) st2.keep muC (fun b hb z => (ap b hb).1 (m1 b (List.mem_append_left _ z))) fun b hb z => nd_apart n1 b z hb
  obtain ⟨Wf, sf, sub⟩ := SR.front (n := vs.length) sr2
  have ef : (List.map some (vs ++ dvs)).take vs.length = vs.map some := by
    rw [List.map_append, List.take_append_of_le_length (by simp)]
    rw [List.take_of_length_le (by simp)]
  rw [ef] at sf
  have apart2 : ∀ b ∈ ws2 ++ W2, b ∉ Wr := fun b hb hr => by
    rcases st2.new b hb with z | z
    · exact nd_apart n1 b z hr
    · obtain ⟨o, e⟩ := (muR b hr).there
      rw [z] at e; cases e
  have nf : (Wf ++ Wr).Nodup := nd_mk ((nd_right nd2).sublist sub) (nd_right n1) fun b hb => apart2 b (List.mem_append_right _ (sub.subset hb))
  obtain ⟨W3, s3, n3, m3⟩ := back (fin.take vs.length) H2 Wf Wr sf rest nf
  rw [hvs] at s3
  refine k _ _ (.val t) _ ⟨ws2, W3, ⟨fun b o h hb => ?_, fun b hb => ?_⟩, nd_mk (nd_left nd2) n3 fun b hb hz => ?_, s3, rp2⟩ hR
  · have hb1 : b ∉ ws ++ W1 := fun z => by
      rcases st.new b z with z | z
      · exact hb z
      · rw [h] at z; cases z
    exact st2.keep b o (st.keep b o h hb) fun z => hb1 (m1 b (List.mem_append_left _ z))
  · have toW : b ∈ Wc ++ Wr ∨ H1 b = none := by
      rcases List.mem_append.mp hb with z | z
      · exact (st2.new b (List.mem_append_left _ z)).imp_left (List.mem_append_left _)
      · rcases List.mem_append.mp (m3 b z) with z | z
        · exact (st2.new b (List.mem_append_right _ (sub.subset z))).imp_left (List.mem_append_left _)
        · exact .inl (List.mem_append_right _ z)
    rcases toW with z | z
    · exact st.new b (m1 b z)
    · by_cases hw : b ∈ W
      · exact .inl hw
      · refine .inr ?_
        cases q : H b with
        | none => rfl
        | some o => rw [st.keep b o q hw] at z; cases z
  · rcases List.mem_append.mp (m3 b hz) with z | z
    · exact nd_apart nd2 b hb (sub.subset z)
    · exact apart2 b (List.mem_append_left _ hb) z
theorem ve_call {S : FS} {ms : List Md} {ds : List D} {dvs : List V} {n k : Nat} {x : Str} {p : Pos} {fa : Addr} {fd : FuncData} {ps : List Str} {dV : List Value} (F : FnOk X.prog X.w X.K X.mg X.base CX0 k fa fd ps (spO X.K n S)) (hr : Room k X.A) (hg : Gl X x) (hm : X.mg x = some (.ref fa)) (hk : PySem.W.keepIn X.K (.ref fa) = true) (hb : Binds X.K fd ps dV) (hd : Vals dvs dV)
    (rd : ∀ H, RepDs X.K H ds dvs) (hn : ms.length + ds.length = n) (ha : VA X (e :: es) fs) (hdb : (x == ("__debug__" : Str)) = false := by decide) (he : starEach (e :: es) X.env = (false, eval e X.env) :: starEach es X.env := by rfl) (hpl : (backTo pos (starEach es X.env)).any (·.1) = false := by rfl) :
    VE X (.Call (.Name x p) (e :: es) [] pos) (fCall S ms ds fs) :=
  (pe_call F hr hg hm hk hb hd (pass0 (X := X)) ha hdb he hpl).pwi fun σ H Q h => call_core rd hn h
theorem ve_call0 {S : FS} {ds : List D} {dvs : List V} {n k : Nat} {x : Str} {p : Pos} {fa : Addr} {fd : FuncData} {ps : List Str} {dV : List Value} (F : FnOk X.prog X.w X.K X.mg X.base CX0 k fa fd ps (spO X.K n S)) (hr : Room k X.A) (hg : Gl X x) (hm : X.mg x = some (.ref fa)) (hk : PySem.W.keepIn X.K (.ref fa) = true) (hb : Binds X.K fd ps dV) (hd : Vals dvs dV)
    (rd : ∀ H, RepDs X.K H ds dvs) (hn : ds.length = n) (hdb : (x == ("__debug__" : Str)) = false := by decide) :
    VE X (.Call (.Name x p) [] [] pos) (fCall S [] ds fNil) :=
  (pe_call0 F hr hg hm hk hb hd (pass0 (X := X)) hdb).pwi fun σ H Q h => by
    obtain ⟨P, ρ, W, R, G, q, k⟩ := call_core (ms := []) (E := E0) rd (by simpa using hn) h
    exact k _ _ [] _ ⟨[], W, Step.refl _ _, by simpa using G.nd, G.sr, ⟨rfl, rfl⟩⟩ q
end

/-! ### a def's rule -/
/-- the parameters' trees at the end: those at fx -/
def finS (fx : List Nat) (n : Nat) (ρ : List Slot) : List Slot := (List.range n).map fun i => if i ∈ fx then ρ.getD i .un else .un
theorem SR.pick {K : PySem.W.Frag} {P : Addr → Prop} {H : Hp} : ∀ {ρ : List Slot} {σ : St} {W : List Addr} (keep : List Bool) {τ : St}, SR K P H ρ σ W → keep.length ≤ ρ.length → τ.length = keep.length → (∀ i : Nat, keep[i]? = some true → τ[i]? = σ[i]?) →
    ∃ W1, SR K P H ((keep.zip ρ).map fun p => if p.1 = true then p.2 else Slot.un) τ W1 ∧ W1.Sublist W
  | ρ, σ, W, [], τ, _, _, ht, _ => ⟨[], by rw [List.eq_nil_of_length_eq_zero ht]; exact ⟨rfl, rfl⟩, List.nil_sublist _⟩
  | [], _, _, _ :: _, _, _, hl, _, _ => by simp at hl
  | s :: ρ, σ, W, b :: keep, τ, sr, hl, ht, hi => by
    match τ, ht with
    | o :: τ, ht =>
      have hl' : keep.length ≤ ρ.length := by simpa using hl
      have ht' : τ.length = keep.length := by simpa using ht
      cases b with
      | false =>
        have rec1 : ∀ {σ' : St} {W' : List Addr}, SR K P H ρ σ' W' → (∀ i : Nat, keep[i]? = some true → τ[i]? = σ'[i]?) → ∃ W1, SR K P H ((keep.zip ρ).map fun p => if p.1 = true then p.2 else Slot.un) τ W1 ∧ W1.Sublist W' := fun h h2 => SR.pick keep h hl' ht' h2
        cases s with
        | un =>
          obtain ⟨o', r, e, h⟩ := sr
          subst e
          obtain ⟨W1, g, sb⟩ := rec1 h fun i hk => by simpa using hi (i + 1) (by simpa using hk)
          exact ⟨W1, ⟨o, τ, rfl, g⟩, sb⟩
        | own t =>
          obtain ⟨v, r, w1, w2, e, q, h, ew⟩ := sr
          subst e ew
          obtain ⟨W1, g, sb⟩ := rec1 h fun i hk => by simpa using hi (i + 1) (by simpa using hk)
          exact ⟨W1, ⟨o, τ, rfl, g⟩, sb.trans (List.sublist_append_right _ _)⟩
        | hid t =>
          obtain ⟨v, r, w, e, q, hn, h⟩ := sr
          subst e
          obtain ⟨W1, g, sb⟩ := rec1 h fun i hk => by simpa using hi (i + 1) (by simpa using hk)
          exact ⟨W1, ⟨o, τ, rfl, g⟩, sb⟩
      | true =>
        have h0 := hi 0 rfl
        cases s with
        | un =>
          obtain ⟨o', r, e, h⟩ := sr
          subst e
          obtain ⟨W1, g, sb⟩ := SR.pick keep h hl' ht' fun i hk => by simpa using hi (i + 1) (by simpa using hk)
          exact ⟨W1, ⟨o, τ, rfl, g⟩, sb⟩
        | own t =>
          obtain ⟨v, r, w1, w2, e, q, h, ew⟩ := sr
          subst e ew
          obtain ⟨W1, g, sb⟩ := SR.pick keep h hl' ht' fun i hk => by simpa using hi (i + 1) (by simpa using hk)
          have : o = some v := by simpa using h0
          subst this
          exact ⟨w1 ++ W1, ⟨v, τ, w1, W1, rfl, q, g, rfl⟩, List.Sublist.append (List.Sublist.refl _) sb⟩
        | hid t =>
          obtain ⟨v, r, w, e, q, hn, h⟩ := sr
          subst e
          obtain ⟨W1, g, sb⟩ := SR.pick keep h hl' ht' fun i hk => by simpa using hi (i + 1) (by simpa using hk)
          have : o = some v := by simpa using h0
          subst this
          exact ⟨W1, ⟨v, τ, w, rfl, q, hn, g⟩, sb⟩
theorem SR.fin {K : PySem.W.Frag} {P : Addr → Prop} {H : Hp} {fx : List Nat} {n : Nat} {ρ : List Slot} {σ τ : St} {W : List Addr} (sr : SR K P H ρ σ W) (hn : n ≤ ρ.length) (ht : τ.length = n) (hi : ∀ i ∈ fx, i < n → τ[i]? = σ[i]?) : ∃ W1, SR K P H (finS fx n ρ) τ W1 ∧ W1.Sublist W := by
  have hlen : ((List.range n).map fun i => decide (i ∈ fx)).length = n := by simp
  obtain ⟨W1, g, sb⟩ := sr.pick ((List.range n).map fun i => decide (i ∈ fx)) (τ := τ) (by rw [hlen]; exact hn) (by rw [hlen]; exact ht) fun i hk => by
    rw [List.getElem?_map] at hk
    by_cases hlt : i < n
    · rw [List.getElem?_range hlt] at hk
      have : i ∈ fx := by simpa using hk
      exact hi i this hlt
    · rw [List.getElem?_eq_none (by simpa using hlt)] at hk
      cases hk
  refine ⟨W1, ?_, sb⟩
  have e : (((List.range n).map fun i => decide (i ∈ fx)).zip ρ).map (fun p => if p.1 = true then p.2 else Slot.un) = finS fx n ρ := by
    refine List.ext_getElem? fun i => ?_
    unfold finS
    by_cases hlt : i < n
    · have hr : i < ρ.length := by omega
      have hz : (((List.range n).map fun i => decide (i ∈ fx)).zip ρ)[i]? = some (decide (i ∈ fx), ρ[i]) := List.getElem?_zip_eq_some.mpr ⟨by rw [List.getElem?_map, List.getElem?_range hlt]; rfl, List.getElem?_eq_getElem hr⟩
      rw [List.getElem?_map, hz, List.getElem?_map, List.getElem?_range hlt]
      simp only [Option.map_some, decide_eq_true_eq]
      rw [List.getD_eq_getElem?_getD, List.getElem?_eq_getElem hr]
      rfl
    · rw [List.getElem?_eq_none (by simp; omega), List.getElem?_eq_none (by simp; omega)]
  rw [← e]
  exact g
section
variable {Pg : Program} {w : World} {K : PySem.W.Frag} {mg : Str → Option Value} {base : Heap}
theorem fn_ok {x qual : Str} {st : Stmt} {f : Addr} {fd : FuncData} {N ps : List Str} {k n : Nat} {S : FS} {sf : SF} {fx : List Nat} (F : Fun K x qual st f fd) (sc : FnScope N ps (defScope st)) (hn : ps.length = n)
    (hb : ∀ (cdv : Value) (A : Around) (outer : List Env) (s : Shared) (H : Hp) (E : XK), Room k (A.deeper (envOfC qual (defScope st) s.heap.objs.size f cdv)) → VSs (cxOf CX0 Pg w K mg base N qual (defScope st) f cdv A outer s H E).nox fx (defBody st) sf)
    (hS : ∀ ss R, ss.length = n → S ss R → sf { nx := fun ρ => R (.d .none) (finS fx n ρ), rt := fun t ρ => R t (finS fx n ρ) } (ss ++ List.replicate (N.length - n) .un)) : FnOk Pg w K mg base CX0 (k + 1) f fd ps (spO K n S) := by
  refine F.ok sc (fun vs H Q E h => by rw [h.1, hn]) (fun cdv A outer s H vs Q E hr h => ?_)
  obtain ⟨hl, P, ss, W, R, G, hSS, kR⟩ := h
  refine ⟨_, hb cdv A outer s H E hr, ?_⟩
  have hpl : ps.length ≤ N.length := by have := congrArg List.length sc.pre; rw [List.length_take] at this; omega
  have hss : ss.length = n := by rw [← G.sr.len, List.length_map]; exact hl
  have G0 : Good K P H (ss ++ List.replicate (N.length - n) .un) (L2.start N vs) W := by
    have go : ∀ {ss : List Slot} {σ : St} {W : List Addr} (m : Nat), SR K P H ss σ W → SR K P H (ss ++ List.replicate m .un) (σ ++ List.replicate m none) W := by
      intro ss
      induction ss with
      | nil =>
        rintro σ W m ⟨rfl, rfl⟩
        induction m with
        | zero => exact ⟨rfl, rfl⟩
        | succ m ih => exact ⟨none, _, rfl, ih⟩
      | cons s ss ih =>
        intro σ W m h
        cases s with
        | un => obtain ⟨o, r, rfl, h⟩ := h; exact ⟨o, _, rfl, ih m h⟩
        | own t => obtain ⟨v, r, w1, w2, rfl, q, h, rfl⟩ := h; exact ⟨v, _, w1, w2, rfl, q, ih m h, rfl⟩
        | hid t => obtain ⟨v, r, w, rfl, q, hn, h⟩ := h; exact ⟨v, _, w, rfl, q, hn, ih m h⟩
    refine ⟨?_, G.nd, G.ap⟩
    unfold L2.start
    rw [hl]
    exact go _ G.sr
  have hstart : (L2.start N vs).length = N.length := by
    unfold L2.start
    rw [List.length_append, List.length_map, List.length_replicate]
    omega
  have fin : ∀ {σ' : St} {H' : Hp} {ρ' : List Slot} {W' : List Addr}, SR K P H' ρ' σ' W' → Fx fx (L2.start N vs) σ' → ∃ W1, SR K P H' (finS fx n ρ') (vs.map some) W1 ∧ W1.Sublist W' := fun {σ' H' ρ' W'} sr hx => by
    refine sr.fin (by rw [← sr.len, hx.2, hstart]; omega) (by simpa using hl) fun i hi hlt => ?_
    rw [hx.1 i hi]
    unfold L2.start
    rw [List.getElem?_append_left (by simpa [hl] using hlt)]
  refine ⟨P, _, W, _, G0, hS ss R hss hSS, fun σ' H' ρ' r hR => ?_, fun v H' t ρ' r hR => ?_, fun _ _ _ _ h => h.elim, fun _ _ _ _ h => h.elim⟩
  · obtain ⟨W', st, G', hx⟩ := r
    obtain ⟨W1, s1, sb⟩ := fin G'.sr hx
    exact kR .non H' (.d .none) _ [] W1 ⟨st.keep, fun b hb => st.new b (sb.subset (by simpa using hb))⟩ (by simpa using G'.nd.sublist sb) s1 ⟨rfl, rfl⟩ hR
  · obtain ⟨ws, W', σ', st, nd, sr, rp, hx⟩ := r
    obtain ⟨W1, s1, sb⟩ := fin sr hx
    exact kR v H' t _ ws W1 ⟨st.keep, fun b hb => st.new b ((List.Sublist.append (List.Sublist.refl ws) sb).subset hb)⟩ (nd.sublist (List.Sublist.append (List.Sublist.refl ws) sb)) s1 rp hR
end
end PW
end PwF
section PwO
set_option maxRecDepth 100000
/-! PwO: operations. -/
namespace PW
open PySem PySem.Spec L2
open PyProof.Rows hiding St

section
variable {K : PySem.W.Frag} {H : Hp} {vs : List V}
theorem b0 (h : BReps K H [] vs) : vs = [] := h
theorem b1 {t : T} (h : BReps K H [t] vs) : ∃ v ws, vs = [v] ∧ RepT K H t v ws := by
  obtain ⟨v, r, ws, e, h, e2⟩ := h
  have e2 : r = [] := e2
  subst e2
  exact ⟨v, ws, e, h⟩
theorem b2 {t u : T} (h : BReps K H [t, u] vs) : ∃ v w ws1 ws2, vs = [v, w] ∧ RepT K H t v ws1 ∧ RepT K H u w ws2 := by
  obtain ⟨v, r, ws, e, h, g⟩ := h
  obtain ⟨w, ws2, e2, h2⟩ := b1 g
  exact ⟨v, w, ws, ws2, by rw [e, e2], h, h2⟩
theorem nofresh {H : Hp} : ∀ b ∈ ([] : List Addr), H b = none := by simp
end
/-- two ints -/
def oI2 (C : Int → Int → Prop) (g : Int → Int → D) : OF := fun ts R => match ts with
  | [.d (.int i), .d (.int j)] => C i j ∧ R (.d (g i j))
  | _ => False
def oAdd : OF := fun ts R => match ts with
  | [.d (.int i), .d (.int j)] => R (.d (.int (i + j)))
  | _ => False
def oSub : OF := fun ts R => match ts with
  | [.d (.int i), .d (.int j)] => R (.d (.int (i - j)))
  | _ => False
def oMul : OF := fun ts R => match ts with
  | [.d (.int i), .d (.int j)] => CMul i j ∧ R (.d (.int (i * j)))
  | _ => False
def oDiv : OF := fun ts R => match ts with
  | [.d (.int i), .d (.int j)] => CDiv i j ∧ R (.d (.int (i / j)))
  | _ => False
def oMod : OF := fun ts R => match ts with
  | [.d (.int i), .d (.int j)] => 0 < j ∧ R (.d (.int (i % j)))
  | _ => False
def oPow : OF := fun ts R => match ts with
  | [.d (.int i), .d (.int j)] => CPow i j ∧ R (.d (.int (i ^ j.toNat)))
  | _ => False
def oNeg : OF := fun ts R => match ts with
  | [.d (.int i)] => R (.d (.int (-i)))
  | _ => False
def oCmp (p : Int → Int → Bool) : OF := fun ts R => match ts with
  | [.d (.int i), .d (.int j)] => R (.d (.bool (p i j)))
  | _ => False
abbrev oLt : OF := oCmp fun i j => decide (i < j)
abbrev oLe : OF := oCmp fun i j => decide (i ≤ j)
abbrev oGt : OF := oCmp fun i j => decide (j < i)
abbrev oGe : OF := oCmp fun i j => decide (j ≤ i)
theorem ok_i2 {K : PySem.W.Frag} {o : OF} {r2 : R2} (C : Int → Int → Prop) (g : Int → Int → D) (gv : Int → Int → V) (ho : ∀ ts R, o ts R → ∃ i j, ts = [.d (.int i), .d (.int j)] ∧ C i j ∧ R (.d (g i j)))
    (hr : ∀ i j H (Q : VK), C i j → Q (gv i j) H → r2 (.int i) (.int j) H Q) (hg : ∀ H i j, RepD K H (g i j) (gv i j)) : OpOk K o fun vs H Q => ∃ x y, vs = [x, y] ∧ r2 x y H Q := by
  intro ts vs H Q R b h k
  obtain ⟨i, j, rfl, hC, hR⟩ := ho ts R h
  obtain ⟨v, w, _, _, e, ⟨h1, _⟩, ⟨h2, _⟩⟩ := b2 b
  have h1 : v = .int i := h1
  have h2 : w = .int j := h2
  subst h1 h2
  exact ⟨_, _, e, hr i j H Q hC (k _ _ (.d (g i j)) [] (Same.refl _) nofresh (by simp) ⟨hg H i j, rfl⟩ hR)⟩
theorem m2 {o : OF} (C : Int → Int → Prop) (g : Int → Int → D) (h : o = fun ts R => match ts with
  | [.d (.int i), .d (.int j)] => C i j ∧ R (.d (g i j))
  | _ => False) : ∀ ts R, o ts R → ∃ i j, ts = [.d (.int i), .d (.int j)] ∧ C i j ∧ R (.d (g i j)) := by
  subst h
  intro ts R q
  split at q
  · exact ⟨_, _, rfl, q⟩
  · exact q.elim
theorem m2' {o : OF} (g : Int → Int → D) (h : o = fun ts R => match ts with
  | [.d (.int i), .d (.int j)] => R (.d (g i j))
  | _ => False) : ∀ ts R, o ts R → ∃ i j, ts = [.d (.int i), .d (.int j)] ∧ True ∧ R (.d (g i j)) := by
  subst h
  intro ts R q
  split at q
  · exact ⟨_, _, rfl, trivial, q⟩
  · exact q.elim
section
variable {X : Cx} {a b e : Expr} {es : List Expr} {pos : Pos} {fa fb f : TF} {fs : TAF}
theorem ve_add (ha : VE X a fa) (hb : VE X b fb) : VE X (.BinOp a .Add b pos) (fOp oAdd (fCons fa (fCons fb fNil))) :=
  ve_bin op_add (ok_i2 _ _ (fun i j => .int (i + j)) (m2' _ rfl) (fun i j H Q _ q => ⟨i, j, rfl, rfl, q⟩) fun _ _ _ => rfl) ha hb
theorem ve_sub (ha : VE X a fa) (hb : VE X b fb) : VE X (.BinOp a .Sub b pos) (fOp oSub (fCons fa (fCons fb fNil))) :=
  ve_bin op_sub (ok_i2 _ _ (fun i j => .int (i - j)) (m2' _ rfl) (fun i j H Q _ q => ⟨i, j, rfl, rfl, q⟩) fun _ _ _ => rfl) ha hb
theorem ve_mul (ha : VE X a fa) (hb : VE X b fb) : VE X (.BinOp a .Mult b pos) (fOp oMul (fCons fa (fCons fb fNil))) :=
  ve_bin op_mul (ok_i2 _ _ (fun i j => .int (i * j)) (m2 CMul _ rfl) (fun i j H Q c q => ⟨i, j, rfl, rfl, c, q⟩) fun _ _ _ => rfl) ha hb
theorem ve_div (ha : VE X a fa) (hb : VE X b fb) : VE X (.BinOp a .FloorDiv b pos) (fOp oDiv (fCons fa (fCons fb fNil))) :=
  ve_bin op_fdiv (ok_i2 _ _ (fun i j => .int (i / j)) (m2 CDiv _ rfl) (fun i j H Q c q => ⟨i, j, rfl, rfl, c, q⟩) fun _ _ _ => rfl) ha hb
theorem ve_mod (ha : VE X a fa) (hb : VE X b fb) : VE X (.BinOp a .Mod b pos) (fOp oMod (fCons fa (fCons fb fNil))) :=
  ve_bin op_mod (ok_i2 _ _ (fun i j => .int (i % j)) (m2 (fun _ j => 0 < j) _ rfl) (fun i j H Q c q => ⟨i, j, rfl, rfl, c, q⟩) fun _ _ _ => rfl) ha hb
theorem ve_pow (ha : VE X a fa) (hb : VE X b fb) : VE X (.BinOp a .Pow b pos) (fOp oPow (fCons fa (fCons fb fNil))) :=
  ve_bin op_pow (ok_i2 _ _ (fun i j => .int (i ^ j.toNat)) (m2 CPow _ rfl) (fun i j H Q c q => ⟨i, j, rfl, rfl, c, q⟩) fun _ _ _ => rfl) ha hb
theorem ve_neg (ha : VE X a fa) : VE X (.UnaryOp .USub a pos) (fOp oNeg (fCons fa fNil)) := ve_un un_neg (by
  intro ts vs H Q R b h k
  unfold oNeg at h
  split at h
  · rename_i i
    obtain ⟨v, _, e, h1, _⟩ := b1 b
    have h1 : v = .int i := h1
    subst h1
    exact ⟨_, e, i, rfl, k _ _ (.d (.int (-i))) [] (Same.refl _) nofresh (by simp) ⟨rfl, rfl⟩ h⟩
  · exact h.elim) ha
/-- the comparisons of ints -/
theorem oc_lt {K : PySem.W.Frag} : OpOk K oLt fun vs H Q => ∃ x y, vs = [x, y] ∧ rI0 (fun i j => .bl (decide (i < j))) x y H Q := ok_i2 _ _ (fun i j => .bl (decide (i < j))) (m2' _ rfl) (fun i j H Q _ q => ⟨i, j, rfl, rfl, q⟩) fun _ _ _ => rfl
theorem oc_le {K : PySem.W.Frag} : OpOk K oLe fun vs H Q => ∃ x y, vs = [x, y] ∧ rI0 (fun i j => .bl (decide (i ≤ j))) x y H Q := ok_i2 _ _ (fun i j => .bl (decide (i ≤ j))) (m2' _ rfl) (fun i j H Q _ q => ⟨i, j, rfl, rfl, q⟩) fun _ _ _ => rfl
theorem oc_gt {K : PySem.W.Frag} : OpOk K oGt fun vs H Q => ∃ x y, vs = [x, y] ∧ rI0 (fun i j => .bl (decide (j < i))) x y H Q := ok_i2 _ _ (fun i j => .bl (decide (j < i))) (m2' _ rfl) (fun i j H Q _ q => ⟨i, j, rfl, rfl, q⟩) fun _ _ _ => rfl
theorem oc_ge {K : PySem.W.Frag} : OpOk K oGe fun vs H Q => ∃ x y, vs = [x, y] ∧ rI0 (fun i j => .bl (decide (j ≤ i))) x y H Q := ok_i2 _ _ (fun i j => .bl (decide (j ≤ i))) (m2' _ rfl) (fun i j H Q _ q => ⟨i, j, rfl, rfl, q⟩) fun _ _ _ => rfl
/-- == of numbers, of truths, of texts -/
def oEqS : OF := fun ts R => match ts with
  | [.d (.int i), .d (.int j)] => R (.d (.bool (decide (i = j))))
  | [.d (.bool i), .d (.bool j)] => R (.d (.bool (decide (i = j))))
  | [.d (.str i), .d (.str j)] => R (.d (.bool (decide (i = j))))
  | _ => False
def oNeS : OF := fun ts R => match ts with
  | [.d (.int i), .d (.int j)] => R (.d (.bool (!decide (i = j))))
  | [.d (.bool i), .d (.bool j)] => R (.d (.bool (!decide (i = j))))
  | [.d (.str i), .d (.str j)] => R (.d (.bool (!decide (i = j))))
  | _ => False
theorem oc_eqS {K : PySem.W.Frag} : OpOk K oEqS fun vs H Q => ∃ x y, vs = [x, y] ∧ rEq x y H Q := by
  intro ts vs H Q R b h k
  unfold oEqS at h
  split at h
  · rename_i i j
    obtain ⟨v, w, _, _, e, ⟨h1, _⟩, ⟨h2, _⟩⟩ := b2 b
    have h1 : v = .int i := h1
    have h2 : w = .int j := h2
    subst h1 h2
    refine ⟨_, _, e, rfl, k _ _ (.d (.bool (decide (i = j)))) [] (Same.refl _) nofresh (by simp) ⟨?_, rfl⟩ h⟩
    show V.bl _ = V.bl _
    congr 1
    exact decide_eq_decide.mpr ⟨fun z => V.int.inj z, fun z => by rw [z]⟩
  · rename_i i j
    obtain ⟨v, w, _, _, e, ⟨h1, _⟩, ⟨h2, _⟩⟩ := b2 b
    have h1 : v = .bl i := h1
    have h2 : w = .bl j := h2
    subst h1 h2
    refine ⟨_, _, e, rfl, k _ _ (.d (.bool (decide (i = j)))) [] (Same.refl _) nofresh (by simp) ⟨?_, rfl⟩ h⟩
    show V.bl _ = V.bl _
    congr 1
    exact decide_eq_decide.mpr ⟨fun z => V.bl.inj z, fun z => by rw [z]⟩
  · rename_i i j
    obtain ⟨v, w, _, _, e, ⟨h1, _⟩, ⟨h2, _⟩⟩ := b2 b
    have h1 : v = .str i := h1
    have h2 : w = .str j := h2
    subst h1 h2
    refine ⟨_, _, e, rfl, k _ _ (.d (.bool (decide (i = j)))) [] (Same.refl _) nofresh (by simp) ⟨?_, rfl⟩ h⟩
    show V.bl _ = V.bl _
    congr 1
    exact decide_eq_decide.mpr ⟨fun z => V.str.inj z, fun z => by rw [z]⟩
  · exact h.elim
theorem oc_neS {K : PySem.W.Frag} : OpOk K oNeS fun vs H Q => ∃ x y, vs = [x, y] ∧ rNe x y H Q := by
  intro ts vs H Q R b h k
  unfold oNeS at h
  split at h
  · rename_i i j
    obtain ⟨v, w, _, _, e, ⟨h1, _⟩, ⟨h2, _⟩⟩ := b2 b
    have h1 : v = .int i := h1
    have h2 : w = .int j := h2
    subst h1 h2
    refine ⟨_, _, e, rfl, k _ _ (.d (.bool (!decide (i = j)))) [] (Same.refl _) nofresh (by simp) ⟨?_, rfl⟩ h⟩
    show V.bl _ = V.bl _
    congr 2
    exact decide_eq_decide.mpr ⟨fun z => V.int.inj z, fun z => by rw [z]⟩
  · rename_i i j
    obtain ⟨v, w, _, _, e, ⟨h1, _⟩, ⟨h2, _⟩⟩ := b2 b
    have h1 : v = .bl i := h1
    have h2 : w = .bl j := h2
    subst h1 h2
    refine ⟨_, _, e, rfl, k _ _ (.d (.bool (!decide (i = j)))) [] (Same.refl _) nofresh (by simp) ⟨?_, rfl⟩ h⟩
    show V.bl _ = V.bl _
    congr 2
    exact decide_eq_decide.mpr ⟨fun z => V.bl.inj z, fun z => by rw [z]⟩
  · rename_i i j
    obtain ⟨v, w, _, _, e, ⟨h1, _⟩, ⟨h2, _⟩⟩ := b2 b
    have h1 : v = .str i := h1
    have h2 : w = .str j := h2
    subst h1 h2
    refine ⟨_, _, e, rfl, k _ _ (.d (.bool (!decide (i = j)))) [] (Same.refl _) nofresh (by simp) ⟨?_, rfl⟩ h⟩
    show V.bl _ = V.bl _
    congr 2
    exact decide_eq_decide.mpr ⟨fun z => V.str.inj z, fun z => by rw [z]⟩
  · exact h.elim
/-- as data, whatever it holds -/
def dOf : T → Option D
  | .d x => some x
  | .ls xs => some (.list xs)
  | _ => none
theorem dOf_dp {K : PySem.W.Frag} {H : Hp} {t : T} {x : D} {v : V} {ws : List Addr} (h : dOf t = some x) (r : RepT K H t v ws) : Dp K H v x := by
  unfold dOf at h
  split at h
  · cases h; exact r.1.dp
  · cases h
    obtain ⟨a, vs, e, ha, hr, _⟩ := r
    subst e
    exact .lst (SqL.of ha) hr.dp
  · cases h
def oEqD : OF := fun ts R => match ts with
  | [a, b] => match dOf a, dOf b with
    | some x, some y => SeqAt.shaped x = true ∧ SeqAt.shaped y = true ∧ R (.d (.bool (PyData.eqv x y)))
    | _, _ => False
  | _ => False
def oNeD : OF := fun ts R => match ts with
  | [a, b] => match dOf a, dOf b with
    | some x, some y => SeqAt.shaped x = true ∧ SeqAt.shaped y = true ∧ R (.d (.bool (!PyData.eqv x y)))
    | _, _ => False
  | _ => False
theorem oc_eqD {K : PySem.W.Frag} : OpOk K oEqD fun vs H Q => ∃ x y, vs = [x, y] ∧ rEqD K x y H Q := by
  intro ts vs H Q R b h k
  unfold oEqD at h
  split at h
  · rename_i t u
    split at h
    · rename_i x y hx hy
      obtain ⟨v, w, _, _, e, h1, h2⟩ := b2 b
      exact ⟨v, w, e, x, y, dOf_dp hx h1, dOf_dp hy h2, h.1, h.2.1, k _ _ (.d (.bool _)) [] (Same.refl _) nofresh (by simp) ⟨rfl, rfl⟩ h.2.2⟩
    · exact h.elim
  · exact h.elim
theorem oc_neD {K : PySem.W.Frag} : OpOk K oNeD fun vs H Q => ∃ x y, vs = [x, y] ∧ rNeD K x y H Q := by
  intro ts vs H Q R b h k
  unfold oNeD at h
  split at h
  · rename_i t u
    split at h
    · rename_i x y hx hy
      obtain ⟨v, w, _, _, e, h1, h2⟩ := b2 b
      exact ⟨v, w, e, x, y, dOf_dp hx h1, dOf_dp hy h2, h.1, h.2.1, k _ _ (.d (.bool _)) [] (Same.refl _) nofresh (by simp) ⟨rfl, rfl⟩ h.2.2⟩
    · exact h.elim
  · exact h.elim
/-! ### items -/
/-- xs[i] of a list, a tuple -/
def oIx : OF := fun ts R => match ts with
  | [.ls xs, .d (.int i)] => match atI xs i with
    | some x => R (.d x)
    | none => False
  | [.d (.list xs), .d (.int i)] => match atI xs i with
    | some x => R (.d x)
    | none => False
  | [.d (.tuple xs), .d (.int i)] => match atI xs i with
    | some x => R (.d x)
    | none => False
  | [.d (.str z), .d (.int i)] => z.length ≤ sizeLine ∧ match atI z.cps.toList i with
    | some c => R (.d (.str ⟨#[c]⟩))
    | none => False
  | _ => False
theorem atI_rep {K : PySem.W.Frag} {H : Hp} {xs : List D} {vs : List V} {i : Int} {x : D} (r : RepDs K H xs vs) (h : atI xs i = some x) : ∃ v, atI vs i = some v ∧ RepD K H x v := by
  unfold atI at h ⊢
  rw [r.length]
  cases q : ixN xs.length i with
  | none => rw [q] at h; cases h
  | some j =>
    rw [q] at h
    exact r.get h
theorem oc_ix {K : PySem.W.Frag} : OpOk K oIx fun vs H Q => ∃ x y, vs = [x, y] ∧ rIx K x y H Q := by
  intro ts vs H Q R b h k
  unfold oIx at h
  split at h
  · rename_i xs i
    split at h
    · rename_i x hx
      obtain ⟨v, w, _, _, e, ⟨a, us, e1, ha, hr, _⟩, ⟨h2, _⟩⟩ := b2 b
      have h2 : w = .int i := h2
      subst h2 e1
      obtain ⟨u, hu, ru⟩ := atI_rep hr hx
      exact ⟨_, _, e, .inl ⟨a, us, i, u, rfl, rfl, SqL.of ha, hu, k _ _ (.d x) [] (Same.refl _) nofresh (by simp) ⟨ru, rfl⟩ h⟩⟩
    · exact h.elim
  · rename_i xs i
    split at h
    · rename_i x hx
      obtain ⟨v, w, _, _, e, ⟨⟨a, us, e1, ha, hr⟩, _⟩, ⟨h2, _⟩⟩ := b2 b
      have h2 : w = .int i := h2
      subst h2 e1
      obtain ⟨u, hu, ru⟩ := atI_rep hr hx
      exact ⟨_, _, e, .inl ⟨a, us, i, u, rfl, rfl, ha.l, hu, k _ _ (.d x) [] (Same.refl _) nofresh (by simp) ⟨ru, rfl⟩ h⟩⟩
    · exact h.elim
  · rename_i xs i
    split at h
    · rename_i x hx
      obtain ⟨v, w, _, _, e, ⟨⟨a, us, e1, ha, hr⟩, _⟩, ⟨h2, _⟩⟩ := b2 b
      have h2 : w = .int i := h2
      subst h2 e1
      obtain ⟨u, hu, ru⟩ := atI_rep hr hx
      exact ⟨_, _, e, .inr (.inl ⟨a, us, i, u, rfl, rfl, ha, hu, k _ _ (.d x) [] (Same.refl _) nofresh (by simp) ⟨ru, rfl⟩ h⟩)⟩
    · exact h.elim
  · rename_i z i
    obtain ⟨hz, h⟩ := h
    split at h
    · rename_i c hc
      obtain ⟨v, w, _, _, e, ⟨h1, _⟩, ⟨h2, _⟩⟩ := b2 b
      have h1 : v = .str z := h1
      have h2 : w = .int i := h2
      subst h1 h2
      exact ⟨_, _, e, .inr (.inr ⟨z, i, c, rfl, rfl, hz, hc, k _ _ (.d (.str ⟨#[c]⟩)) [] (Same.refl _) nofresh (by simp) ⟨rfl, rfl⟩ h⟩)⟩
    · exact h.elim
  · exact h.elim
theorem ve_ixs (ha : VE X a fa) (hb : VE X b fb) (hs : PlainIx b := by exact fun _ _ => rfl) : VE X (.Subscript a b pos) (fOp oIx (fCons fa (fCons fb fNil))) := ve_ix ix_seq oc_ix ha hb hs
/-! ### built-in functions -/
def oLen : OF := fun ts R => match ts with
  | [.ls xs] => R (.d (.int xs.length))
  | [.d (.list xs)] => R (.d (.int xs.length))
  | [.d (.tuple xs)] => R (.d (.int xs.length))
  | [.d (.str z)] => z.length ≤ sizeLine ∧ R (.d (.int z.length))
  | _ => False
theorem oc_len {K : PySem.W.Frag} : OpOk K oLen fun xs H Q => ∃ x n, xs = [x] ∧ LenV K x H n ∧ Q (.int n) H := by
  intro ts vs H Q R b h k
  unfold oLen at h
  split at h
  · rename_i xs
    obtain ⟨v, _, e, a, us, e1, ha, hr, _⟩ := b1 b
    subst e1
    refine ⟨_, us.length, e, .inl ⟨us, SqL.of ha, rfl⟩, k _ _ (.d (.int xs.length)) [] (Same.refl _) nofresh (by simp) ⟨?_, rfl⟩ h⟩
    rw [hr.length]; rfl
  · rename_i xs
    obtain ⟨v, _, e, ⟨a, us, e1, ha, hr⟩, _⟩ := b1 b
    subst e1
    refine ⟨_, us.length, e, .inl ⟨us, ha.l, rfl⟩, k _ _ (.d (.int xs.length)) [] (Same.refl _) nofresh (by simp) ⟨?_, rfl⟩ h⟩
    rw [hr.length]; rfl
  · rename_i xs
    obtain ⟨v, _, e, ⟨a, us, e1, ha, hr⟩, _⟩ := b1 b
    subst e1
    refine ⟨_, us.length, e, .inr ⟨us, ha, rfl⟩, k _ _ (.d (.int xs.length)) [] (Same.refl _) nofresh (by simp) ⟨?_, rfl⟩ h⟩
    rw [hr.length]; rfl
  · rename_i z
    obtain ⟨v, _, e, h1, _⟩ := b1 b
    have h1 : v = .str z := h1
    subst h1
    exact ⟨_, z.length, e, ⟨h.1, rfl⟩, k _ _ (.d (.int z.length)) [] (Same.refl _) nofresh (by simp) ⟨rfl, rfl⟩ h.2⟩
  · exact h.elim
/-- int of a number, of a truth -/
def oInt : OF := fun ts R => match ts with
  | [.d (.int i)] => R (.d (.int i))
  | [.d (.bool c)] => R (.d (.int (if c = true then 1 else 0)))
  | _ => False
theorem oc_int {K : PySem.W.Frag} : OpOk K oInt fun xs H Q => (∃ i, xs = [.int i] ∧ Q (.int i) H) ∨ ∃ k, xs = [.bl k] ∧ Q (.int (if k then 1 else 0)) H := by
  intro ts vs H Q R b h k
  unfold oInt at h
  split at h
  · rename_i i
    obtain ⟨v, _, e, h1, _⟩ := b1 b
    have h1 : v = .int i := h1
    subst h1
    exact .inl ⟨i, e, k _ _ (.d (.int i)) [] (Same.refl _) nofresh (by simp) ⟨rfl, rfl⟩ h⟩
  · rename_i c
    obtain ⟨v, _, e, h1, _⟩ := b1 b
    have h1 : v = .bl c := h1
    subst h1
    exact .inr ⟨c, e, k _ _ (.d (.int (if c = true then 1 else 0))) [] (Same.refl _) nofresh (by simp) ⟨rfl, rfl⟩ h⟩
  · exact h.elim
def oMax2 : OF := fun ts R => match ts with
  | [.d (.int i), .d (.int j)] => R (.d (.int (if j > i then j else i)))
  | _ => False
def oMin2 : OF := fun ts R => match ts with
  | [.d (.int i), .d (.int j)] => R (.d (.int (if j < i then j else i)))
  | _ => False
theorem oc_max2 {K : PySem.W.Frag} : OpOk K oMax2 fun xs H Q => ∃ i j, xs = [.int i, .int j] ∧ Q (.int (if j > i then j else i)) H := by
  intro ts vs H Q R b h k
  unfold oMax2 at h
  split at h
  · rename_i i j
    obtain ⟨v, w, _, _, e, ⟨h1, _⟩, ⟨h2, _⟩⟩ := b2 b
    have h1 : v = .int i := h1
    have h2 : w = .int j := h2
    subst h1 h2
    exact ⟨i, j, e, k _ _ (.d (.int _)) [] (Same.refl _) nofresh (by simp) ⟨rfl, rfl⟩ h⟩
  · exact h.elim
theorem oc_min2 {K : PySem.W.Frag} : OpOk K oMin2 fun xs H Q => ∃ i j, xs = [.int i, .int j] ∧ Q (.int (if j < i then j else i)) H := by
  intro ts vs H Q R b h k
  unfold oMin2 at h
  split at h
  · rename_i i j
    obtain ⟨v, w, _, _, e, ⟨h1, _⟩, ⟨h2, _⟩⟩ := b2 b
    have h1 : v = .int i := h1
    have h2 : w = .int j := h2
    subst h1 h2
    exact ⟨i, j, e, k _ _ (.d (.int _)) [] (Same.refl _) nofresh (by simp) ⟨rfl, rfl⟩ h⟩
  · exact h.elim
/-- the items of a list, a tuple -/
def seqOf : T → Option (List D)
  | .ls xs => some xs
  | .d (.list xs) => some xs
  | _ => none
theorem seqOf_rep {K : PySem.W.Frag} {H : Hp} {t : T} {xs : List D} {v : V} {ws : List Addr} (h : seqOf t = some xs) (r : RepT K H t v ws) : ∃ a vs, v = .ref a ∧ SqL K H a vs ∧ RepDs K H xs vs := by
  unfold seqOf at h
  split at h
  · cases h
    obtain ⟨a, vs, e, ha, hr, _⟩ := r
    exact ⟨a, vs, e, SqL.of ha, hr⟩
  · cases h
    obtain ⟨⟨a, vs, e, ha, hr⟩, _⟩ := r
    exact ⟨a, vs, e, ha.l, hr⟩
  · cases h
theorem rep_bls {K : PySem.W.Frag} {H : Hp} : ∀ {bs : List Bool} {vs : List V}, RepDs K H (bs.map .bool) vs → vs = bs.map V.bl
  | [], _, h => h
  | b :: bs, _, ⟨v, r, e, h, t⟩ => by
    have h : v = .bl b := h
    rw [e, h, rep_bls t]; rfl
theorem rep_nums {K : PySem.W.Frag} {H : Hp} : ∀ {bs : List Int} {vs : List V}, RepDs K H (bs.map .int) vs → vs = bs.map V.int
  | [], _, h => h
  | b :: bs, _, ⟨v, r, e, h, t⟩ => by
    have h : v = .int b := h
    rw [e, h, rep_nums t]; rfl
def oAny : OF := fun ts R => ∃ (t : T) (bs : List Bool), ts = [t] ∧ seqOf t = some (bs.map .bool) ∧ R (.d (.bool (bs.any id)))
def oAll : OF := fun ts R => ∃ (t : T) (bs : List Bool), ts = [t] ∧ seqOf t = some (bs.map .bool) ∧ R (.d (.bool (bs.all id)))
def oSum : OF := fun ts R => ∃ (t : T) (ns : List Int), ts = [t] ∧ seqOf t = some (ns.map .int) ∧ R (.d (.int ns.sum))
theorem oc_any {K : PySem.W.Frag} : OpOk K oAny (rAny K) := by
  rintro ts vs H Q R b ⟨t, bs, rfl, hs, hR⟩ k
  obtain ⟨v, _, e, h1⟩ := b1 b
  obtain ⟨a, us, e1, hq, hr⟩ := seqOf_rep hs h1
  have := rep_bls hr
  subst e1 this
  exact ⟨a, bs, e, hq, k _ _ (.d (.bool _)) [] (Same.refl _) nofresh (by simp) ⟨rfl, rfl⟩ hR⟩
theorem oc_all {K : PySem.W.Frag} : OpOk K oAll (rAll K) := by
  rintro ts vs H Q R b ⟨t, bs, rfl, hs, hR⟩ k
  obtain ⟨v, _, e, h1⟩ := b1 b
  obtain ⟨a, us, e1, hq, hr⟩ := seqOf_rep hs h1
  have := rep_bls hr
  subst e1 this
  exact ⟨a, bs, e, hq, k _ _ (.d (.bool _)) [] (Same.refl _) nofresh (by simp) ⟨rfl, rfl⟩ hR⟩
theorem oc_sum {K : PySem.W.Frag} : OpOk K oSum (rSum K) := by
  rintro ts vs H Q R b ⟨t, bs, rfl, hs, hR⟩ k
  obtain ⟨v, _, e, h1⟩ := b1 b
  obtain ⟨a, us, e1, hq, hr⟩ := seqOf_rep hs h1
  have := rep_nums hr
  subst e1 this
  exact ⟨a, bs, e, hq, k _ _ (.d (.int _)) [] (Same.refl _) nofresh (by simp) ⟨rfl, rfl⟩ hR⟩
/-! ### classes -/
inductive Ty where
  | non | bl | int | str | tup | lst | dct
def Ty.name : Ty → String
  | .non => "NoneType" | .bl => "bool" | .int => "int" | .str => "str" | .tup => "tuple" | .lst => "list" | .dct => "dict"
def Ty.isi : Ty → Ty → Bool
  | .non, .non => true | .bl, .bl => true | .bl, .int => true | .int, .int => true | .str, .str => true | .tup, .tup => true | .lst, .lst => true | .dct, .dct => true
  | _, _ => false
theorem Ty.kit {K : PySem.W.Frag} (a b : Ty) : PySem.W.kitOne K (.type a.name) (.type b.name) = some (a.isi b) := by
  refine kit_ty ?_
  cases a <;> cases b <;> decide +kernel
def tyOf : T → Ty
  | .d .none => .non | .d (.bool _) => .bl | .d (.int _) => .int | .d (.str _) => .str | .d (.tuple _) => .tup | .d (.list _) => .lst | .d (.dict _) => .dct
  | .ls _ => .lst | .lt _ => .lst | .dk _ => .dct | .tp _ => .tup
theorem sqT_tyx {K : PySem.W.Frag} {H : Hp} {a : Addr} {vs : List V} (h : SqT K H a vs) : TyX K H (.ref a) (.type "tuple") := by
  rcases h with (h | ⟨o, h⟩) | ⟨o, _, _, h, c, _⟩
  · exact .base (.tup h)
  · exact .fTuple h
  · exact .kTuple h c
theorem RepT.ty {K : PySem.W.Frag} {H : Hp} {t : T} {v : V} {ws : List Addr} (r : RepT K H t v ws) : TyX K H v (.type (tyOf t).name) := by
  match t, r with
  | .d .none, ⟨h, _⟩ => have h : v = .non := h; subst h; exact .base .non
  | .d (.bool b), ⟨h, _⟩ => have h : v = .bl b := h; subst h; exact .base (.bl b)
  | .d (.int b), ⟨h, _⟩ => have h : v = .int b := h; subst h; exact .base (.int b)
  | .d (.str b), ⟨h, _⟩ => have h : v = .str b := h; subst h; exact .base (.str b)
  | .d (.tuple xs), ⟨⟨a, vs, e, h, _⟩, _⟩ => subst e; exact sqT_tyx h
  | .d (.list xs), ⟨⟨a, vs, e, h, _⟩, _⟩ =>
    subst e
    rcases h with ⟨o, h⟩ | ⟨o, _, _, h, c, _⟩
    · exact .base (.frz h)
    · exact .kList h c
  | .d (.dict _), ⟨h, _⟩ => exact h.elim
  | .ls _, ⟨a, vs, e, h, _⟩ => subst e; exact .base (.lst h)
  | .lt _, ⟨a, vs, w, e, h, _⟩ => subst e; exact .base (.lst h)
  | .dk _, ⟨a, vs, w, e, h, _⟩ => subst e; exact .base (.dK h)
  | .tp _, ⟨a, vs, e, h, _⟩ => subst e; exact sqT_tyx h
/-- isinstance(e, T), T a built-in class -/
def fIsi (c : Ty) (f : TF) : TF := fun ρ Q => f ρ fun o ρ1 => withR ρ1 [o] fun ts => match ts with
  | [t] => Q (.val (.d (.bool ((tyOf t).isi c)))) ρ1
  | _ => False
theorem ve_isi {c : Ty} {y : Str} {p py : Pos} (hg : Gl X "isinstance") (hm : X.mg "isinstance" = none) (hy : Gl X y) (hmy : X.mg y = none) (hv : bootBuiltins y = some (.type c.name)) (ha : VE X e f) (hny : y ≠ "__name__" := by decide) (hdy : (y == ("__debug__" : Str)) = false := by decide)
    (hs1 : starEach [e, .Name y py] X.env = (false, eval e X.env) :: starEach [.Name y py] X.env := by rfl) (hs2 : starEach [.Name y py] X.env = [(false, eval (.Name y py) X.env)] := by rfl) : VE X (.Call (.Name "isinstance" p) [e, .Name y py] [] pos) (fIsi c f) := by
  have hp : PE X (.Name y py) (tC (.ty c.name)) := pe_bltn hy hmy hv rfl hny hdy
  have := pe_callB (pos := pos) (p := p) call_isi hg hm boot_isinstance (pa_cons ha (pa_cons hp pa_nil (by rw [hs2]; rfl)) hs1) (by decide) (by decide) hs1 (by rw [hs2]; rfl)
  refine this.pwi fun σ H Q ⟨P, ρ, W, R, G, q, k⟩ => ⟨P, ρ, W, _, G, q, fun v H1 o ρ1 r1 h1 => ?_⟩
  obtain ⟨ws, W1, G1, st, nd, rp⟩ := r1.good G
  obtain ⟨ts, bt, h2⟩ := withR_ok G1.sr (os := [o]) (vs := [v]) (ws := ws) ⟨v, [], ws, [], rfl, rp, ⟨rfl, rfl⟩, by simp⟩ h1
  split at h2
  · rename_i t
    obtain ⟨v', ws', e', rt⟩ := b1 bt
    injection e' with e' _
    subst e'
    exact ⟨v, .ty c.name, _, _, _, rfl, .ty _, rt.ty, Ty.kit (tyOf t) c, k _ _ (.val (.d (.bool _))) _ ⟨[], W1, by simpa using st.drop, by simpa using G1.nd, G1.sr, ⟨rfl, rfl⟩⟩ h2⟩
  · exact h2.elim
/-! ### lists put together, changed -/
def oCatL : OF := fun ts R => match ts with
  | [.ls xs, .ls ys] => xs.length + ys.length ≤ sizeLine ∧ R (.ls (xs ++ ys))
  | _ => False
theorem oc_catL {K : PySem.W.Frag} : OpOk K oCatL fun vs H Q => ∃ x y, vs = [x, y] ∧ rCat x y H Q := by
  intro ts vs H Q R b h k
  unfold oCatL at h
  split at h
  · rename_i xs ys
    obtain ⟨v, w, _, _, e, ⟨a, us, e1, ha, hr, _⟩, ⟨a2, us2, e2, ha2, hr2, _⟩⟩ := b2 b
    subst e1 e2
    refine ⟨_, _, e, a, a2, us, us2, rfl, rfl, ha, ha2, by rw [hr.length, hr2.length]; exact h.1, fun p hp => k _ _ (.ls (xs ++ ys)) [p] (same_upd hp) (fun b hb => ?_) (by simp) ⟨p, _, rfl, upd_same, (hr.append hr2).keep (.same (same_upd hp)), rfl⟩ h.2⟩
    have : b = p := by simpa using hb
    subst this; exact hp
  · exact h.elim
theorem ve_catL (ha : VE X a fa) (hb : VE X b fb) : VE X (.BinOp a .Add b pos) (fOp oCatL (fCons fa (fCons fb fNil))) := ve_bin op_cat oc_catL ha hb
def mApp : MF := fun xs ts R => match ts with
  | [.d x] => xs.length < sizeLine ∧ R .none (xs ++ [x])
  | _ => False
theorem mk_app {K : PySem.W.Frag} : MutOk K mApp rAppend := by
  intro xs ts a xv vs H Q R ha hr b h k
  unfold mApp at h
  split at h
  · rename_i x
    obtain ⟨v, _, e, h1, _⟩ := b1 b
    have kp : Kept [a] H (upd H a (.lst (xv ++ [v]))) := ⟨fun b o hb hn => by rw [upd_ne (by simpa using hn)]; exact hb, fun b hb => by
      have : b = a := by simpa using hb
      subst this; exact .inl ⟨_, ha⟩⟩
    exact ⟨a, xv, v, rfl, e, ha, by rw [hr.length]; exact h.1, k _ _ .none (xs ++ [x]) (xv ++ [v]) (fun b o hb hn => by rw [upd_ne hn]; exact hb) upd_same ((hr.keep kp).append (.one (h1.keep kp))) rfl h.2⟩
  · exact h.elim
end
end PW
end PwO
section PwI
set_option maxRecDepth 100000
/-! PwI: enumerate, zip, reversed, texts, walked. -/
namespace PW
open PySem PySem.Spec L2 RZ RT
open PyProof.Rows hiding St

def LsAt (K : PySem.W.Frag) (H : Hp) (W : List Addr) (a : Addr) (vs : List V) : Prop := (H a = some (.lst vs) ∧ a ∉ W) ∨ SqZ K H a vs
theorem LsAt.kept {K : PySem.W.Frag} {H H' : Hp} {W : List Addr} {a : Addr} {vs : List V} (h : LsAt K H W a vs) (k : Kept W H H') : SqL K H' a vs := by
  rcases h with ⟨h, ha⟩ | h
  · exact .inl (.inl (k.keep _ _ h ha))
  · exact (k.sqZ h).l
/-- behind an operand that is a list -/
theorem ls_of {K : PySem.W.Frag} {H : Hp} {t : T} {xs : List D} {v : V} {ws W1 : List Addr} (h : seqOf t = some xs) (rp : RepT K H t v ws) (nd : (ws ++ W1).Nodup) : ∃ a vs, v = .ref a ∧ LsAt K H W1 a vs ∧ RepDs K H xs vs := by
  unfold seqOf at h
  split at h
  · cases h
    obtain ⟨a, vs, e, ha, hr, ew⟩ := rp
    exact ⟨a, vs, e, .inl ⟨ha, nd_apart nd a (by rw [ew]; simp)⟩, hr⟩
  · cases h
    obtain ⟨⟨a, vs, e, ha, hr⟩, _⟩ := rp
    exact ⟨a, vs, e, .inr ha, hr⟩
  · cases h
def enumD : Nat → List D → List D
  | _, [] => []
  | i, x :: xs => .tuple [.int (i : Nat), x] :: enumD (i + 1) xs
theorem enumD_length : ∀ (xs : List D) (i : Nat), (enumD i xs).length = xs.length
  | [], _ => rfl
  | x :: xs, i => by unfold enumD; rw [List.length_cons, List.length_cons, enumD_length xs]
theorem enumD_get : ∀ (xs : List D) (k i : Nat) (x : D), xs[i]? = some x → (enumD k xs)[i]? = some (.tuple [.int ((k + i : Nat) : Int), x])
  | [], _, _, _, h => by simp at h
  | y :: xs, k, 0, x, h => by
    have h : y = x := by simpa using h
    subst h; rfl
  | y :: xs, k, i + 1, x, h => by
    unfold enumD
    rw [List.getElem?_cons_succ, enumD_get xs (k + 1) i x (by simpa using h)]
    congr 4
    omega
def zipD : List D → List D → List D
  | x :: xs, y :: ys => .tuple [x, y] :: zipD xs ys
  | _, _ => []
theorem zipD_get : ∀ (xs ys : List D) (i : Nat) (x y : D), xs[i]? = some x → ys[i]? = some y → (zipD xs ys)[i]? = some (.tuple [x, y])
  | [], _, _, _, _, h, _ => by simp at h
  | _ :: _, [], _, _, _, _, h => by simp at h
  | a :: xs, b :: ys, 0, x, y, h, g => by
    have h : a = x := by simpa using h
    have g : b = y := by simpa using g
    subst h g; rfl
  | a :: xs, b :: ys, i + 1, x, y, h, g => zipD_get xs ys i x y (by simpa using h) (by simpa using g)
theorem zipD_length : ∀ (xs ys : List D), (zipD xs ys).length = min xs.length ys.length
  | [], ys => by simp [zipD]
  | x :: xs, [] => by simp [zipD]
  | x :: xs, y :: ys => by unfold zipD; rw [List.length_cons, zipD_length xs ys, List.length_cons, List.length_cons]; omega
section
variable {X : Cx} {e e2 : Expr} {elts : List Expr} {kk : Nat} {p pos tpos : Pos} {f g : TF} {tg : Expr}
/-- the pair just made -/
theorem pair_rep {K : PySem.W.Frag} {H : Hp} {T : Addr} {x y : D} {v w : V} (hT : H T = none) (hx : RepD K H x v) (hy : RepD K H y w) : Same H (upd H T (.tup [v, w])) ∧ RepD K (upd H T (.tup [v, w])) (.tuple [x, y]) (.ref T) :=
  ⟨same_upd hT, ⟨T, [v, w], rfl, .inl (.inl upd_same), v, [w], rfl, hx.keep (.same (same_upd hT)), w, [], rfl, hy.keep (.same (same_upd hT)), rfl⟩⟩
def iEnumL (fs : TAF) : IF := fun ρ R => fs ρ fun os ρ1 => match os with
  | [.val t] => match seqOf t with
    | some xs => R (enumD 0 xs) ρ1
    | none => False
  | _ => False
theorem yld_enum {K : PySem.W.Frag} {H0 : Hp} {W : List Addr} {a : Addr} {xs : List D} {vs : List V} (hs : LsAt K H0 W a vs) (rp : RepDs K H0 xs vs) (mu : ∀ b ∈ W, MutO H0 b) : Yld K (Ite K a) H0 W (enumD 0 xs) := fun H k => by
  have kp : Kept W H0 H := ⟨k, mu⟩
  have hs' := hs.kept kp
  have rp' := rp.keep kp
  refine ⟨fun i hi => ⟨?_, fun x H' y => ?_⟩, fun i hi => ⟨vs, hs', by rw [rp.length]; rw [enumD_length] at hi; exact hi⟩⟩
  · rw [enumD_length] at hi
    obtain ⟨v, hv, _⟩ := rp'.get (List.getElem?_eq_getElem hi)
    exact ⟨vs, v, hs', hv⟩
  · rw [enumD_length] at hi
    obtain ⟨T, z, e1, hT, e2, y⟩ := y
    subst e1 e2
    obtain ⟨v, hv, hr⟩ := rp'.get (List.getElem?_eq_getElem hi)
    have := y vs hs'
    rw [hv] at this; cases this
    obtain ⟨s1, r1⟩ := pair_rep (x := .int (i : Nat)) (v := .int (i : Nat)) hT rfl hr
    exact ⟨s1, _, by rw [enumD_get xs 0 i _ (List.getElem?_eq_getElem hi), Nat.zero_add], r1⟩
variable {fs : TAF}
theorem vi_enum (ha : VA X [e] fs) (hg : Gl X "enumerate") (hm : X.mg "enumerate" = none) (hs : starEach [e] X.env = [(false, eval e X.env)] := by rfl) : VI X (.Tuple elts kk tpos) (.Call (.Name "enumerate" p) [e] [] pos) (iEnumL fs) :=
  (pi_enum hg hm ha hs).pwi fun σ H R ⟨P, ρ, W, Rq, G, q, k⟩ => ⟨P, ρ, W, _, G, q, fun vs H1 os ρ1 r1 h1 => by
    obtain ⟨ws, W1, G1, st, nd, rp⟩ := r1.good G
    split at h1
    · rename_i t
      split at h1
      · rename_i xs hq
        obtain ⟨v, r, w1, w2, ev, hv, ⟨er, ew2⟩, ew⟩ := rp
        subst ev er ew2 ew
        have hv : RepT X.K H1 t v w1 := hv
        obtain ⟨a, us, e1, la, hr⟩ := ls_of hq hv (W1 := W1) (by simpa using nd)
        subst e1
        exact ⟨a, us, rfl, la.kept ⟨fun _ _ h _ => h, G1.mut⟩, k _ _ _ ρ1 ⟨W1, st.drop, G1, yld_enum la hr G1.mut⟩ h1⟩
      · exact h1.elim
    · exact h1.elim⟩
def iZipL (fs : TAF) : IF := fun ρ R => fs ρ fun os ρ1 => match os with
  | [.val t, .val u] => match seqOf t, seqOf u with
    | some xs, some ys => R (zipD xs ys) ρ1
    | _, _ => False
  | _ => False
def iZipT (fs : TAF) : IF := fun ρ R => fs ρ fun os ρ1 => match os with
  | [.val (.d (.tuple xs)), .val (.d (.tuple ys))] => R (zipD xs ys) ρ1
  | _ => False
theorem yld_zip {K : PySem.W.Frag} {H0 : Hp} {W : List Addr} {a b : Addr} {xs ys : List D} {vs us : List V} (hs : LsAt K H0 W a vs) (ht : LsAt K H0 W b us) (rp : RepDs K H0 xs vs) (rq : RepDs K H0 ys us) (mu : ∀ b ∈ W, MutO H0 b) : Yld K (Itz K a b) H0 W (zipD xs ys) := fun H k => by
  have kp : Kept W H0 H := ⟨k, mu⟩
  have hs' := hs.kept kp
  have ht' := ht.kept kp
  have rp' := rp.keep kp
  have rq' := rq.keep kp
  refine ⟨fun i hi => ?_, fun i hi => ⟨vs, us, hs', ht', by rw [rp.length, rq.length]; rw [zipD_length] at hi; omega⟩⟩
  rw [zipD_length] at hi
  have hx : i < xs.length := by omega
  have hy : i < ys.length := by omega
  obtain ⟨v, hv, hr⟩ := rp'.get (List.getElem?_eq_getElem hx)
  obtain ⟨u, hu, hr2⟩ := rq'.get (List.getElem?_eq_getElem hy)
  refine ⟨⟨vs, us, v, u, hs', ht', hv, hu⟩, fun x H' y => ?_⟩
  obtain ⟨T, z1, z2, e1, hT, e2, y1, y2⟩ := y
  subst e1 e2
  have h1 := y1 vs hs'
  have h2 := y2 us ht'
  rw [hv] at h1; cases h1
  rw [hu] at h2; cases h2
  obtain ⟨s1, r1⟩ := pair_rep hT hr hr2
  exact ⟨s1, _, zipD_get xs ys i _ _ (List.getElem?_eq_getElem hx) (List.getElem?_eq_getElem hy), r1⟩
theorem yld_zipT {K : PySem.W.Frag} {H0 : Hp} {W : List Addr} {a b : Addr} {xs ys : List D} {vs us : List V} (hs : SqT K H0 a vs) (ht : SqT K H0 b us) (rp : RepDs K H0 xs vs) (rq : RepDs K H0 ys us) (mu : ∀ b ∈ W, MutO H0 b) : Yld K (ItzT K a b) H0 W (zipD xs ys) := fun H k => by
  have kp : Kept W H0 H := ⟨k, mu⟩
  have hs' := kp.sqT hs
  have ht' := kp.sqT ht
  have rp' := rp.keep kp
  have rq' := rq.keep kp
  refine ⟨fun i hi => ?_, fun i hi => ⟨vs, us, hs', ht', by rw [rp.length, rq.length]; rw [zipD_length] at hi; omega⟩⟩
  rw [zipD_length] at hi
  have hx : i < xs.length := by omega
  have hy : i < ys.length := by omega
  obtain ⟨v, hv, hr⟩ := rp'.get (List.getElem?_eq_getElem hx)
  obtain ⟨u, hu, hr2⟩ := rq'.get (List.getElem?_eq_getElem hy)
  refine ⟨⟨vs, us, v, u, hs', ht', hv, hu⟩, fun x H' y => ?_⟩
  obtain ⟨T, z1, z2, e1, hT, e2, y1, y2⟩ := y
  subst e1 e2
  have h1 := y1 vs hs'
  have h2 := y2 us ht'
  rw [hv] at h1; cases h1
  rw [hu] at h2; cases h2
  obtain ⟨s1, r1⟩ := pair_rep hT hr hr2
  exact ⟨s1, _, zipD_get xs ys i _ _ (List.getElem?_eq_getElem hx) (List.getElem?_eq_getElem hy), r1⟩
theorem vi_zipL (ha : VA X [e, e2] fs) (hg : Gl X "zip") (hm : X.mg "zip" = none) (hs : starEach [e, e2] X.env = (false, eval e X.env) :: starEach [e2] X.env := by rfl) (hpl : (backTo pos (starEach [e2] X.env)).any (·.1) = false := by rfl) :
    VI X (.Tuple elts kk tpos) (.Call (.Name "zip" p) [e, e2] [] pos) (iZipL fs) := (pi_zip hg hm ha hs hpl).pwi fun σ H R ⟨P, ρ, W, Rq, G, q, k⟩ => ⟨P, ρ, W, _, G, q, fun vs H1 os ρ1 r1 h1 => by
    obtain ⟨ws, W1, G1, st, nd, rp⟩ := r1.good G
    split at h1
    · rename_i t u
      split at h1
      · rename_i xs ys hq hq2
        obtain ⟨v, r, w1, w2, ev, hv, ⟨v2, r2, w3, w4, ev2, hv2, ⟨er, ew2⟩, ew3⟩, ew⟩ := rp
        subst ev ev2 er ew2 ew3 ew
        have hv : RepT X.K H1 t v w1 := hv
        have hv2 : RepT X.K H1 u v2 w3 := hv2
        have nd' : (w1 ++ (w3 ++ W1)).Nodup := by simpa [List.append_assoc] using nd
        obtain ⟨a, us, e1, la, hr⟩ := ls_of hq hv (W1 := W1) (nd'.sublist (List.Sublist.append (List.Sublist.refl _) (List.sublist_append_right _ _)))
        obtain ⟨b, us2, e2, lb, hr2⟩ := ls_of hq2 hv2 (W1 := W1) (nd_right nd')
        subst e1 e2
        exact ⟨a, b, us, us2, rfl, la.kept ⟨fun _ _ h _ => h, G1.mut⟩, lb.kept ⟨fun _ _ h _ => h, G1.mut⟩, k _ _ _ ρ1 ⟨W1, st.drop, G1, yld_zip la lb hr hr2 G1.mut⟩ h1⟩
      · exact h1.elim
    · exact h1.elim⟩
theorem vi_zipT (ha : VA X [e, e2] fs) (hg : Gl X "zip") (hm : X.mg "zip" = none) (hs : starEach [e, e2] X.env = (false, eval e X.env) :: starEach [e2] X.env := by rfl) (hpl : (backTo pos (starEach [e2] X.env)).any (·.1) = false := by rfl) :
    VI X (.Tuple elts kk tpos) (.Call (.Name "zip" p) [e, e2] [] pos) (iZipT fs) := (pi_zipA hg hm ha hs hpl).pwi fun σ H R ⟨P, ρ, W, Rq, G, q, k⟩ => ⟨P, ρ, W, _, G, q, fun vs H1 os ρ1 r1 h1 => by
    obtain ⟨ws, W1, G1, st, nd, rp⟩ := r1.good G
    split at h1
    · rename_i xs ys
      obtain ⟨v, r, w1, w2, ev, hv, ⟨v2, r2, w3, w4, ev2, hv2, ⟨er, ew2⟩, ew3⟩, ew⟩ := rp
      obtain ⟨⟨a, us, e1, ha, hr⟩, _⟩ := hv
      obtain ⟨⟨b, us2, e2, hb, hr2⟩, _⟩ := hv2
      subst ev ev2 er e1 e2
      exact ⟨a, b, us, us2, rfl, .inr ⟨ha, hb, k _ _ _ ρ1 ⟨W1, st.drop, G1, yld_zipT ha hb hr hr2 G1.mut⟩ h1⟩⟩
    · exact h1.elim⟩
/-- the signs of a text -/
def signsD (x : Str) : List D := x.cps.toList.map fun c => .str ⟨#[c]⟩
def iStrF (f : TF) : IF := fun ρ R => f ρ fun o ρ1 => match o with
  | .val (.d (.str x)) => R (signsD x) ρ1
  | _ => False
theorem yld_str {K : PySem.W.Frag} {H0 : Hp} {W : List Addr} {x : Str} : Yld K (Its x) H0 W (signsD x) := fun H _ => by
  unfold signsD
  refine ⟨fun i hi => ⟨by show i < x.cps.size; simpa using hi, fun v H' y => ?_⟩, fun i hi => by show x.cps.size ≤ i; simpa using hi⟩
  obtain ⟨e, c, hc, ev⟩ := y
  subst e ev
  refine ⟨Same.refl _, .str ⟨#[c]⟩, ?_, rfl⟩
  rw [List.getElem?_map, Array.getElem?_toList, hc]
  rfl
theorem vi_str (he : VE X e f) : VI X tg e (iStrF f) := (pi_str he).pwi fun σ H R ⟨P, ρ, W, Rq, G, q, k⟩ => ⟨P, ρ, W, _, G, q, fun v H1 o ρ1 r1 h1 => by
  obtain ⟨ws, W1, G1, st, nd, rp⟩ := r1.good G
  split at h1
  · rename_i x
    have ev : v = .str x := rp.1
    subst ev
    exact ⟨x, rfl, k _ _ _ ρ1 ⟨W1, st.drop, G1, yld_str⟩ h1⟩
  · exact h1.elim⟩
/-- reversed(list or tuple) -/
def iRevF (f : TF) : IF := fun ρ R => f ρ fun o ρ1 => match o with
  | .val (.ls xs) => R xs.reverse ρ1
  | .val (.d (.list xs)) => R xs.reverse ρ1
  | .val (.d (.tuple xs)) => R xs.reverse ρ1
  | _ => False
theorem yld_rev {K : PySem.W.Frag} {H0 : Hp} {W : List Addr} {a : Addr} {xs : List D} {vs : List V} (hs : LsAt K H0 W a vs) (rp : RepDs K H0 xs vs) (mu : ∀ b ∈ W, MutO H0 b) : Yld K (Itv K a vs.length) H0 W xs.reverse := fun H k => by
  have kp : Kept W H0 H := ⟨k, mu⟩
  have hs' := hs.kept kp
  have rp' := rp.keep kp
  have hl := rp.length
  refine ⟨fun i hi => ?_, fun i hi => by rw [List.length_reverse] at hi; show vs.length ≤ i; omega⟩
  rw [List.length_reverse] at hi
  have hj : vs.length - 1 - i < xs.length := by omega
  obtain ⟨v, hv, hr⟩ := rp'.get (List.getElem?_eq_getElem hj)
  refine ⟨⟨by omega, vs, v, hs', hv⟩, fun x H' y => ?_⟩
  obtain ⟨e, y⟩ := y
  subst e
  have := y vs hs'
  rw [hv] at this; cases this
  refine ⟨Same.refl _, _, ?_, hr⟩
  rw [List.getElem?_reverse (by omega), ← List.getElem?_eq_getElem hj]
  congr 1
  omega
theorem yld_revT {K : PySem.W.Frag} {H0 : Hp} {W : List Addr} {a : Addr} {xs : List D} {vs : List V} (hs : SqT K H0 a vs) (rp : RepDs K H0 xs vs) (mu : ∀ b ∈ W, MutO H0 b) : Yld K (ItvT K a vs.length) H0 W xs.reverse := fun H k => by
  have kp : Kept W H0 H := ⟨k, mu⟩
  have hs' := kp.sqT hs
  have rp' := rp.keep kp
  have hl := rp.length
  refine ⟨fun i hi => ?_, fun i hi => by rw [List.length_reverse] at hi; show vs.length ≤ i; omega⟩
  rw [List.length_reverse] at hi
  have hj : vs.length - 1 - i < xs.length := by omega
  obtain ⟨v, hv, hr⟩ := rp'.get (List.getElem?_eq_getElem hj)
  refine ⟨⟨by omega, vs, v, hs', hv⟩, fun x H' y => ?_⟩
  obtain ⟨e, y⟩ := y
  subst e
  have := y vs hs'
  rw [hv] at this; cases this
  refine ⟨Same.refl _, _, ?_, hr⟩
  rw [List.getElem?_reverse (by omega), ← List.getElem?_eq_getElem hj]
  congr 1
  omega
theorem vi_rev (he : VE X e f) (hg : Gl X "reversed") (hm : X.mg "reversed" = none) (hs : starEach [e] X.env = (false, eval e X.env) :: starEach [] X.env := by rfl) : VI X tg (.Call (.Name "reversed" p) [e] [] pos) (iRevF f) :=
  (pi_revA hg hm he hs).pwi fun σ H R ⟨P, ρ, W, Rq, G, q, k⟩ => ⟨P, ρ, W, _, G, q, fun v H1 o ρ1 r1 h1 => by
    obtain ⟨ws, W1, G1, st, nd, rp⟩ := r1.good G
    split at h1
    · rename_i xs
      obtain ⟨a, us, e1, la, hr⟩ := ls_of (t := .ls xs) rfl rp nd
      subst e1
      exact ⟨a, us, rfl, .inl ⟨la.kept ⟨fun _ _ h _ => h, G1.mut⟩, k _ _ _ ρ1 ⟨W1, st.drop, G1, yld_rev la hr G1.mut⟩ h1⟩⟩
    · rename_i xs
      obtain ⟨a, us, e1, la, hr⟩ := ls_of (t := .d (.list xs)) rfl rp nd
      subst e1
      exact ⟨a, us, rfl, .inl ⟨la.kept ⟨fun _ _ h _ => h, G1.mut⟩, k _ _ _ ρ1 ⟨W1, st.drop, G1, yld_rev la hr G1.mut⟩ h1⟩⟩
    · rename_i xs
      obtain ⟨⟨a, us, e1, ha, hr⟩, _⟩ := rp
      subst e1
      exact ⟨a, us, rfl, .inr ⟨ha, k _ _ _ ρ1 ⟨W1, st.drop, G1, yld_revT ha hr G1.mut⟩ h1⟩⟩
    · exact h1.elim⟩
end
end PW
end PwI
section PwG
set_option maxRecDepth 100000
/-! PwG: what the generator's terms lean on: calls by contract, and / or as values, chains. -/
namespace PW
open PySem PySem.Spec L2
open PyProof.Rows hiding St

/-- a def that may be called by its name -/
structure Cal (Pg : Program) (w : World) (K : PySem.W.Frag) (mg : Str → Option Value) (base : Heap) (k n : Nat) (x : Str) (S : FS) (dfs : List D) : Prop where
  ex : ∃ (fa : Addr) (fd : FuncData) (ps : List Str) (dV : List Value) (dvs : List V), FnOk Pg w K mg base CX0 k fa fd ps (spO K n S) ∧ mg x = some (.ref fa) ∧ PySem.W.keepIn K (.ref fa) = true ∧ Binds K fd ps dV ∧ Vals dvs dV ∧ ∀ H, RepDs K H dfs dvs
theorem FnOk.cal {Pg : Program} {w : World} {K : PySem.W.Frag} {mg : Str → Option Value} {base : Heap} {k n : Nat} {x : Str} {S : FS} {fa : Addr} {fd : FuncData} {ps : List Str} (F : FnOk Pg w K mg base CX0 k fa fd ps (spO K n S)) (hm : mg x = some (.ref fa)) (hk : PySem.W.keepIn K (.ref fa) = true) (hb : Binds K fd ps []) : Cal Pg w K mg base k n x S [] :=
  ⟨fa, fd, ps, [], [], F, hm, hk, hb, .nil, fun _ => rfl⟩
section
variable {X : Cx} {e a b c : Expr} {es : List Expr} {pos p : Pos} {f fa fb fc : TF} {fs : TAF}
theorem vcall {k j n : Nat} {x : Str} {S : FS} {dfs : List D} {ms : List Md} (cl : Cal X.prog X.w X.K X.mg X.base k n x S dfs) (hr : Room j X.A) (hk : k ≤ j) (hg : Gl X x) (hn : ms.length + dfs.length = n) (ha : VA X (e :: es) fs) (hdb : (x == ("__debug__" : Str)) = false := by decide)
    (he : starEach (e :: es) X.env = (false, eval e X.env) :: starEach es X.env := by rfl) (hpl : (backTo pos (starEach es X.env)).any (·.1) = false := by rfl) : VE X (.Call (.Name x p) (e :: es) [] pos) (fCall S ms dfs fs) := by
  obtain ⟨fa, fd, ps, dV, dvs, F, hm, hk', hb, hd, rd⟩ := cl.ex
  exact ve_call F (hr.mono hk) hg hm hk' hb hd rd hn ha hdb he hpl
/-! ### and, or, not as values: all but the last are truths -/
def fAndV (f g : TF) : TF := fun ρ Q => f ρ fun o ρ1 => match o with
  | .val (.d (.bool c)) => if c = true then g ρ1 Q else Q (.val (.d (.bool false))) ρ1
  | _ => False
def fOrV (f g : TF) : TF := fun ρ Q => f ρ fun o ρ1 => match o with
  | .val (.d (.bool c)) => if c = true then Q (.val (.d (.bool true))) ρ1 else g ρ1 Q
  | _ => False
def fNotV (f : TF) : TF := fun ρ Q => f ρ fun o ρ1 => match o with
  | .val (.d (.bool c)) => Q (.val (.d (.bool (!c)))) ρ1
  | _ => False
theorem ve_one {op : BoolOp} (h : VE X a f) : VE X (.BoolOp op [a] pos) f := pe_one h
/-- going on behind an expression whose value is scalar -/
theorem go_on {K : PySem.W.Frag} {P : Addr → Prop} {ρ1 : List Slot} {σ : St} {H H1 : Hp} {W W1 : List Addr} {R : Opv → List Slot → Prop} {Q : VK} {g : TF} (st : Step W W1 H H1) (G1 : Good K P H1 ρ1 σ W1) (k : ∀ v H' o ρ', Res K P H σ W v H' o ρ' → R o ρ' → Q v H') (h : g ρ1 R) : tO K g σ H1 Q :=
  ⟨P, ρ1, W1, R, G1, h, fun v H2 o ρ2 ⟨ws, W2, st2, nd2, sr2, rp2⟩ h2 => k _ _ _ _ ⟨ws, W2, by simpa using st.trans (ws := []) st2 (by simpa using G1.nd), nd2, sr2, rp2⟩ h2⟩
theorem ve_and (ha : VE X a fa) (hb : VE X (.BoolOp .And (b :: es) pos) fb) : VE X (.BoolOp .And (a :: b :: es) pos) (fAndV fa fb) := (pe_and ha hb).pwi fun σ H Q ⟨P, ρ, W, R, G, q, k⟩ => ⟨P, ρ, W, _, G, q, fun v H1 o ρ1 r1 h1 => by
  obtain ⟨ws, W1, G1, st, nd, rp⟩ := r1.good G
  split at h1
  · rename_i c
    have ev : v = .bl c := rp.1
    subst ev
    refine ⟨c, rfl, ?_⟩
    cases c with
    | true => rw [if_pos rfl] at h1; exact iteT (go_on st.drop G1 k h1)
    | false => rw [if_neg Bool.false_ne_true] at h1; exact iteF (k _ _ (.val (.d (.bool false))) _ ⟨[], W1, by simpa using st.drop, by simpa using G1.nd, G1.sr, ⟨rfl, rfl⟩⟩ h1)
  · exact h1.elim⟩
theorem ve_or (ha : VE X a fa) (hb : VE X (.BoolOp .Or (b :: es) pos) fb) : VE X (.BoolOp .Or (a :: b :: es) pos) (fOrV fa fb) := (pe_or ha hb).pwi fun σ H Q ⟨P, ρ, W, R, G, q, k⟩ => ⟨P, ρ, W, _, G, q, fun v H1 o ρ1 r1 h1 => by
  obtain ⟨ws, W1, G1, st, nd, rp⟩ := r1.good G
  split at h1
  · rename_i c
    have ev : v = .bl c := rp.1
    subst ev
    refine ⟨c, rfl, ?_⟩
    cases c with
    | true => rw [if_pos rfl] at h1; exact iteT (k _ _ (.val (.d (.bool true))) _ ⟨[], W1, by simpa using st.drop, by simpa using G1.nd, G1.sr, ⟨rfl, rfl⟩⟩ h1)
    | false => rw [if_neg Bool.false_ne_true] at h1; exact iteF (go_on st.drop G1 k h1)
  · exact h1.elim⟩
theorem ve_notV (ha : VE X a fa) : VE X (.UnaryOp .Not a pos) (fNotV fa) := (pe_not ha).pwi fun σ H Q ⟨P, ρ, W, R, G, q, k⟩ => ⟨P, ρ, W, _, G, q, fun v H1 o ρ1 r1 h1 => by
  obtain ⟨ws, W1, G1, st, nd, rp⟩ := r1.good G
  split at h1
  · rename_i c
    have ev : v = .bl c := rp.1
    subst ev
    exact ⟨c, rfl, k _ _ (.val (.d (.bool (!c)))) _ ⟨[], W1, by simpa using st.drop, by simpa using G1.nd, G1.sr, ⟨rfl, rfl⟩⟩ h1⟩
  · exact h1.elim⟩
/-! ### module constants -/
theorem ve_glob {x : Str} {d : D} (h : ∃ (v : V) (u : Value), X.mg x = some u ∧ RelV v u ∧ ∀ H, RepD X.K H d v) (hg : Gl X x := by rfl) (hd : (x == ("__debug__" : Str)) = false := by decide) : VE X (.Name x pos) (fCst d) := by
  obtain ⟨v, u, hm, r, rd⟩ := h
  exact ve_cst (pe_glob hg hm r hd) rd
end
/-! ### the law's own promise -/
def S_law : FS := fun ss R => ∃ ns : List Int, ss = [.own (.d (.list (ns.map .int)))] ∧ ns.length ≤ 63 ∧ ∀ fin, R (.d (.bool true)) fin
theorem rep_ints {K : PySem.W.Frag} {H : Hp} : ∀ ns : List Int, RepDs K H (ns.map .int) (ns.map V.int)
  | [] => rfl
  | n :: ns => ⟨.int n, _, rfl, rfl, rep_ints ns⟩
theorem law_sp {K : PySem.W.Frag} {H : Hp} {a : Addr} {ns : List Int} (hn : ns.length ≤ 63) (hO : Only H) (hS : SqL K H a (ns.map V.int)) (E : XK) : spO K 1 S_law [.ref a] H (fun v _ => v = .bl true) E := by
  have hz : SqZ K H a (ns.map V.int) := by
    rcases hS with (h | ⟨o, h⟩) | h
    · rcases hO a with z | ⟨o, xs, z⟩
      · rw [h] at z; cases z
      · rw [h] at z; cases z
    · exact .inl ⟨o, h⟩
    · exact .inr h
  refine ⟨rfl, fun _ => False, [.own (.d (.list (ns.map .int)))], [], fun t _ => t = .d (.bool true), ⟨⟨.ref a, [], [], [], rfl, ⟨⟨a, _, rfl, hz, rep_ints ns⟩, rfl⟩, ⟨rfl, rfl⟩, rfl⟩, by simp, fun _ h => h.elim⟩, ⟨ns, rfl, hn, fun _ => rfl⟩, fun r H' t fin ws W' _ _ _ rp ht => ?_⟩
  subst ht
  exact rp.1
theorem law_walk {l : PySem.W.OpenLaw} {q : Program} {loose : List Str} {XP : (Str → Option Value) → Heap → Prop} {YP : World → Heap → Prop} {d : DefRec} {K : Params → PySem.W.Frag} {k : Nat} {x : Str} (hn : l.most = some 63) (hdf : d.params.defaults = []) (hr : Room k callerA)
    (hY : ∀ (w : World) (h : Heap), YP w h → (K w.params).In h)
    (F : ∀ (w : World) (mg : Str → Option Value) (fa : Addr) (h : Heap), (K w.params).In h → h.Ns mainGlobals mg → mg d.name = some (.ref fa) →
      ∃ fd : FuncData, (∀ (s : Shared) (u : Value), BindsTo s fd ⟨[u], []⟩ [(x, u)]) ∧ ∀ base : Heap, (K w.params).In base → base.Ns mainGlobals mg → FnOk l.prog w (K w.params) mg base CX0 k fa fd [x] (spO (K w.params) 1 S_law)) :
    PySem.W.WalkO q loose XP YP l.row.toRowW d [] (fun f vs => PySem.call f vs) :=
  L2.walk_of (n := 63) (k := k) (x := x) (CX := fun _ => CX0) (sp := fun w => spO (K w.params) 1 S_law) hn (by decide) hdf hr hY F (fun _ _ a ns hl hO hS => law_sp hl hO hS _) fun _ _ _ _ _ z => z
end PW
end PwG
section PwH
set_option maxRecDepth 100000
/-! PwH: what the pure proofs lean on: loops by invariants, items of lists. -/
namespace PW
open PySem L2
open PyProof.Rows hiding St

/-- a loop by what holds ahead of each turn -/
theorem lp_at {g : GF} {sb : SF} {E : Es} {xs : List D} {ρ : List Slot} (I : Nat → List Slot → Prop) (h0 : I 0 ρ) (hd : ∀ ρ, I xs.length ρ → E.nx ρ)
    (hs : ∀ i x ρ (k : List Slot → Prop), xs[i]? = some x → I i ρ → (∀ ρ', I (i + 1) ρ' → k ρ') → g (.d x) ρ fun ρ1 => sb { nx := k, ct := k, bk := E.nx, rt := E.rt } ρ1) : lp g sb E xs ρ := by
  have go : ∀ (ys : List D) (i : Nat) (ρ : List Slot), xs.drop i = ys → I i ρ → i ≤ xs.length → lp g sb E ys ρ := by
    intro ys
    induction ys with
    | nil =>
      intro i ρ e hi hl
      have : xs.length ≤ i := List.drop_eq_nil_iff.mp e
      have : i = xs.length := by omega
      subst this
      exact hd ρ hi
    | cons y ys ih =>
      intro i ρ e hi hl
      have hlt : i < xs.length := by
        rcases Nat.lt_or_ge i xs.length with z | z
        · exact z
        · rw [List.drop_eq_nil_of_le z] at e; cases e
      rw [List.drop_eq_getElem_cons hlt] at e
      injection e with e1 e2
      have hy : xs[i]? = some y := by rw [List.getElem?_eq_getElem hlt, e1]
      show g (.d y) ρ fun ρ1 => sb { nx := lp g sb E ys, ct := lp g sb E ys, bk := E.nx, rt := E.rt } ρ1
      exact hs i y ρ _ hy hi fun ρ' h' => ih (i + 1) ρ' e2 h' hlt
  exact go xs 0 ρ rfl h0 (Nat.zero_le _)
/-- a comprehension by what holds ahead of each turn -/
theorem lpC_at {vs : List Nat} {g : GF} {tt : TTF} {fe : TF} {xs : List D} {ρ : List Slot} {Q : List D → List Slot → Prop} (I : Nat → List D → List Slot → Prop) (h0 : I 0 [] ρ) (hz : xs.length ≤ sizeLine) (hd : ∀ acc ρ, I xs.length acc ρ → Q acc ρ)
    (hs : ∀ i x acc ρ (k1 : D → List Slot → Prop) (k2 : List Slot → Prop), xs[i]? = some x → I i acc ρ → (∀ y ρ', I (i + 1) (acc ++ [y]) ρ' → k1 y ρ') → (∀ ρ', I (i + 1) acc ρ' → k2 ρ') →
      g (.d x) ρ fun ρ1 => tt ρ1 fun b ρ2 => if b = true then fe ρ2 fun o ρ3 => match o with
        | .val (.d y) => k1 y (killS vs ρ3)
        | _ => False
      else k2 (killS vs ρ2)) : lpC vs g tt fe xs [] ρ Q := by
  have go : ∀ (ys : List D) (i : Nat) (acc : List D) (ρ : List Slot), xs.drop i = ys → I i acc ρ → i ≤ xs.length → acc.length ≤ i → lpC vs g tt fe ys acc ρ Q := by
    intro ys
    induction ys with
    | nil =>
      intro i acc ρ e hi hl _
      have : xs.length ≤ i := List.drop_eq_nil_iff.mp e
      have : i = xs.length := by omega
      subst this
      exact hd acc ρ hi
    | cons y ys ih =>
      intro i acc ρ e hi hl ha
      have hlt : i < xs.length := by
        rcases Nat.lt_or_ge i xs.length with z | z
        · exact z
        · rw [List.drop_eq_nil_of_le z] at e; cases e
      rw [List.drop_eq_getElem_cons hlt] at e
      injection e with e1 e2
      have hy : xs[i]? = some y := by rw [List.getElem?_eq_getElem hlt, e1]
      have := hs i y acc ρ (fun y' ρ' => acc.length < sizeLine ∧ lpC vs g tt fe ys (acc ++ [y']) ρ' Q) (fun ρ' => lpC vs g tt fe ys acc ρ' Q) hy hi
        (fun y' ρ' h' => ⟨by omega, ih (i + 1) _ ρ' e2 h' hlt (by rw [List.length_append, List.length_singleton]; omega)⟩) fun ρ' h' => ih (i + 1) acc ρ' e2 h' hlt (by omega)
      exact this
  exact go xs 0 [] ρ rfl h0 (Nat.zero_le _) (Nat.zero_le _)
/-- a comprehension whose turns leave the slots: each item's value, or none -/
theorem lpC_fm {vs : List Nat} {g : GF} {tt : TTF} {fe : TF} {xs : List D} {ρ : List Slot} {Q : List D → List Slot → Prop} (fn : D → Option D) (hz : xs.length ≤ sizeLine) (hd : Q (xs.filterMap fn) ρ)
    (hs : ∀ x (k1 : D → List Slot → Prop) (k2 : List Slot → Prop), x ∈ xs → (∀ y, fn x = some y → k1 y ρ) → (fn x = none → k2 ρ) →
      g (.d x) ρ fun ρ1 => tt ρ1 fun b ρ2 => if b = true then fe ρ2 fun o ρ3 => match o with
        | .val (.d y) => k1 y (killS vs ρ3)
        | _ => False
      else k2 (killS vs ρ2)) : lpC vs g tt fe xs [] ρ Q := by
  refine lpC_at (fun i acc ρ' => acc = (xs.take i).filterMap fn ∧ ρ' = ρ) ⟨by simp, rfl⟩ hz (fun acc ρ' ⟨e1, e2⟩ => by rw [e1, e2, List.take_length]; exact hd) ?_
  rintro i x acc ρ' k1 k2 hx ⟨rfl, rfl⟩ h1 h2
  have ht : xs.take (i + 1) = xs.take i ++ [x] := by rw [List.take_add_one, hx]; rfl
  refine hs x k1 k2 (List.mem_of_getElem? hx) (fun y hy => h1 y _ ⟨?_, rfl⟩) fun hn => h2 _ ⟨?_, rfl⟩
  · rw [ht, List.filterMap_append]; simp [hy]
  · rw [ht, List.filterMap_append]; simp [hn]
theorem lpC_map {vs : List Nat} {g : GF} {fe : TF} {xs : List D} {ρ : List Slot} {Q : List D → List Slot → Prop} (fn : D → D) (hz : xs.length ≤ sizeLine) (hd : Q (xs.map fn) ρ)
    (hs : ∀ x (k1 : D → List Slot → Prop), x ∈ xs → k1 (fn x) ρ → g (.d x) ρ fun ρ1 => fe ρ1 fun o ρ3 => match o with
        | .val (.d y) => k1 y (killS vs ρ3)
        | _ => False) : lpC vs g tYesF fe xs [] ρ Q := by
  refine lpC_at (fun i acc ρ' => acc = (xs.take i).map fn ∧ ρ' = ρ) ⟨by simp, rfl⟩ hz (fun acc ρ' ⟨e1, e2⟩ => by rw [e1, e2, List.take_length]; exact hd) ?_
  rintro i x acc ρ' k1 k2 hx ⟨rfl, rfl⟩ h1 h2
  have ht : xs.take (i + 1) = xs.take i ++ [x] := by rw [List.take_add_one, hx]; rfl
  have := hs x k1 (List.mem_of_getElem? hx) (h1 _ _ ⟨by rw [ht, List.map_append]; rfl, rfl⟩)
  unfold tYesF
  simpa using this
theorem atI0 {α : Type} (x : α) (l : List α) : atI (x :: l) 0 = some x := atI_nat (j := 0) rfl
theorem atI1 {α : Type} (x y : α) (l : List α) : atI (x :: y :: l) 1 = some y := atI_nat (j := 1) rfl
theorem atI2 {α : Type} (x y z : α) (l : List α) : atI (x :: y :: z :: l) 2 = some z := atI_nat (j := 2) rfl
theorem atI_of {α : Type} {l : List α} {k : Int} {x : α} (h0 : 0 ≤ k) (h : l[k.toNat]? = some x) : atI l k = some x := by
  have := atI_nat h
  rwa [Int.toNat_of_nonneg h0] at this
theorem at_ints {ns : List Int} {k : Int} (h0 : 0 ≤ k) (h1 : k < ns.length) : ∃ z, atI (ns.map PyData.int) k = some (.int z) := by
  have : k.toNat < ns.length := by omega
  exact ⟨ns[k.toNat], atI_of h0 (by rw [List.getElem?_map, List.getElem?_eq_getElem this]; rfl)⟩
theorem at_pick {α : Type} {x y : α} {c : Prop} [Decidable c] : atI [x, y] (if c then 1 else 0) = some (if c then y else x) := by
  by_cases h : c
  · rw [if_pos h, if_pos h]; exact atI1 x y []
  · rw [if_neg h, if_neg h]; exact atI0 x [y]
theorem atI_neg1 {α : Type} {l : List α} {x : α} : atI (l ++ [x]) (-1) = some x := atI_last l x
theorem fin1 (fx : List Nat) (a : Slot) (r : List Slot) : finS fx 1 (a :: r) = [if 0 ∈ fx then a else .un] := rfl
theorem fin2 (fx : List Nat) (a b : Slot) (r : List Slot) : finS fx 2 (a :: b :: r) = [if 0 ∈ fx then a else .un, if 1 ∈ fx then b else .un] := rfl
theorem upto_mem {lo : Int} {n : Nat} {x : D} (h : x ∈ upto lo n) : ∃ i : Nat, i < n ∧ x = .int (lo + i) := by
  obtain ⟨i, hi⟩ := List.mem_iff_getElem?.mp h
  have hlt : i < n := by
    have := (List.getElem?_eq_some_iff.mp hi).1
    rwa [upto_length] at this
  rw [upto_get n lo i hlt] at hi
  exact ⟨i, hlt, (Option.some.inj hi).symm⟩
theorem upto_at {lo : Int} {n i : Nat} {x : D} (h : (upto lo n)[i]? = some x) : i < n ∧ x = .int (lo + i) := by
  have hlt : i < n := by
    have := (List.getElem?_eq_some_iff.mp h).1
    rwa [upto_length] at this
  rw [upto_get n lo i hlt] at h
  exact ⟨hlt, (Option.some.inj h).symm⟩
end PW
end PwH
section SPk38
set_option maxRecDepth 100000
/-! SPk38: the promises of k38's defs. -/
namespace PW
open PySem L2
open PyProof.Rows hiding St
def S_steps_between : FS := fun ss R => ∃ L p o : Int, ss = [.own (.d (.int L)), .own (.d (.int p)), .own (.d (.int o))] ∧ 0 < L ∧ ∀ fin, R (.d (.tuple [.int ((o - p) % L), .int (L - (o - p) % L)])) fin
def canB (L p o t : Int) : Bool := decide ((o - p) % L ≤ t) && decide ((t - (o - p) % L) % 2 = 0) || decide (L - (o - p) % L ≤ t) && decide ((t - (L - (o - p) % L)) % 2 = 0)
def S_can_come : FS := fun ss R => ∃ L p o t : Int, ss = [.own (.d (.int L)), .own (.d (.int p)), .own (.d (.int o)), .own (.d (.int t))] ∧ 0 < L ∧ ∀ fin, R (.d (.bool (canB L p o t))) fin
/-- a box of draws -/
def boxT (a b c : Int) : T := .ls [.int a, .int b, .int c]
def S_law_box : FS := fun ss R => ∃ (ns : List Int) (k : Int), ss = [.own (.d (.list (ns.map .int))), .own (.d (.int k))] ∧ 0 ≤ k ∧ ∀ a b c fin, R (boxT a b c) fin
def S_law_take : FS := fun ss R => ∃ a b c n : Int, ss = [.own (boxT a b c), .own (.d (.int n))] ∧ 0 < n ∧ n < 1073741824 ∧ ∀ r a' b' c' f, 0 ≤ r → r < n → R (.d (.int r)) [.own (boxT a' b' c'), f]
/-- which places steps up and down lead to -/
def rch (L p : Int) : Nat → Int → Bool
  | 0, s => decide (s = p)
  | t + 1, s => rch L p t ((s + L - 1) % L) || rch L p t ((s + 1) % L)
def rowL (L p : Int) (t : Nat) : List D := (upto 0 L.toNat).map fun d => match d with
  | .int s => .bool (rch L p t s)
  | _ => .none
def rowD (L p : Int) (t : Nat) : D := .list (rowL L p t)
def S_law_reached : FS := fun ss R => ∃ L p m : Int, ss = [.own (.d (.int L)), .own (.d (.int p)), .own (.d (.int m))] ∧ 0 < L ∧ L ≤ 60 ∧ 0 ≤ m ∧ m ≤ 2000 ∧ ∀ fin, R (.ls ((List.range (m.toNat + 1)).map (rowD L p))) fin
end PW
end SPk38
section TFk38
set_option maxRecDepth 100000
/-! printed by gen.py: the transformers of k38 -/
namespace PW
open PySem L2
open PyProof.Rows hiding St

def tf_law_box_1 : SF := bCons (sRet (fOp oLst (fCons (fOp oIx (fCons (fOp oLst (fCons (fCst (.int 0)) (fCons (fVar 2) (fNil)))) (fCons (fOp oInt (fCons (fOp oGe (fCons (fVar 2) (fCons (fOp oPow (fCons (fCst (.int 10)) (fCons (fCst (.int 18)) fNil))) fNil))) (fNil))) fNil))) (fCons (fVar 3) (fCons (fCst (.int 0)) (fNil)))))) (bNil)

def tf_law_box_2 : SF := bCons (sAsg (fOp oAdd (fCons (fOp oMod (fCons (fOp oAdd (fCons (fOp oMul (fCons (fOp oMod (fCons (fVar 2) (fCons (fCst (.int 2147483629)) fNil))) (fCons (fCst (.int 48271)) fNil))) (fCons (fOp oMul (fCons (fCst (.int 40692)) (fCons (fVar 1) fNil))) fNil))) (fCons (fCst (.int 2147483629)) fNil))) (fCons (fCst (.int 1)) fNil))) (gNm 3)) (tf_law_box_1)

def tf_law_box_3 : SF := bCons (sIf (fTest (fOp oLt (fCons (fVar 1) (fCons (fOp oLen (fCons (fVar 0) (fNil))) fNil)))) (bCons (sAsg (fOp oIx (fCons (fVar 0) (fCons (fVar 1) fNil))) (gNm 2)) (bNil)) (bCons (sIf (fTest (fOp oGt (fCons (fOp oLen (fCons (fVar 0) (fNil))) (fCons (fCst (.int 0)) fNil)))) (bCons (sAsg (fOp oAdd (fCons (fVar 2) (fCons (fOp oMul (fCons (fOp oMod (fCons (fOp oIx (fCons (fVar 0) (fCons (fOp oMod (fCons (fVar 1) (fCons (fOp oLen (fCons (fVar 0) (fNil))) fNil))) fNil))) (fCons (fCst (.int 2147483629)) fNil))) (fCons (fCst (.int 69623)) fNil))) fNil))) (gNm 2)) (bNil)) (bNil)) (bNil))) (tf_law_box_2)

/-- ['_law_script', '_law_k', '_law_cell', '_law_seed'] mut [] -/
def tf_law_box : SF := bCons (sAsg (fOp oAdd (fCons (fOp oMul (fCons (fCst (.int 7919)) (fCons (fVar 1) fNil))) (fCons (fCst (.int 11)) fNil))) (gNm 2)) (tf_law_box_3)

def tf_law_reached_1 : SF := bCons (sDrop (fMut 3 mApp (fCons (fFz (fLc [6] (iRg1 (fCons (fVar 0) (fNil))) (gNm 6) (tYesF) (fOrV (fOp oIx (fCons (fVar 5) (fCons (fOp oMod (fCons (fOp oSub (fCons (fOp oAdd (fCons (fVar 6) (fCons (fVar 0) fNil))) (fCons (fCst (.int 1)) fNil))) (fCons (fVar 0) fNil))) fNil))) (fOp oIx (fCons (fVar 5) (fCons (fOp oMod (fCons (fOp oAdd (fCons (fVar 6) (fCons (fCst (.int 1)) fNil))) (fCons (fVar 0) fNil))) fNil)))))) (fNil)))) (bKill [4, 5] (bNil))

def tf_law_reached_2 : SF := bCons (sAsg (fOp oIx (fCons (fBor 3) (fCons (fOp oNeg (fCons (fCst (.int 1)) fNil)) fNil))) (gNm 5)) (tf_law_reached_1)

def tf_law_reached_3 : SF := bKill [4, 5] (bCons (sFor (iRg1 (fCons (fVar 2) (fNil))) (gNm 4) (tf_law_reached_2)) (bCons (sRet (fMv 3)) (bNil)))

/-- ['_law_long', '_law_place', '_law_many', '_law_rows', '_law_lap', '_law_now', '_law_spot'] mut [] -/
def tf_law_reached : SF := bCons (sAsg (fOp oLst (fCons (fFz (fLc [6] (iRg1 (fCons (fVar 0) (fNil))) (gNm 6) (tYesF) (fOp oEqS (fCons (fVar 6) (fCons (fVar 1) fNil))))) (fNil))) (gNm 3)) (tf_law_reached_3)

def tf_law_take_1 : SF := bCons (sSubL 0 (fCst (.int 0)) (fOp oDiv (fCons (fOp oIx (fCons (fBor 0) (fCons (fCst (.int 0)) fNil))) (fCons (fVar 1) fNil)))) (bCons (sRet (fVar 3)) (bNil))

def tf_law_take_2 : SF := bCons (sRet (fOp oMod (fCons (fOp oDiv (fCons (fOp oAdd (fCons (fOp oMul (fCons (fVar 2) (fCons (fCst (.int 2147483647)) fNil))) (fCons (fOp oIx (fCons (fBor 0) (fCons (fCst (.int 1)) fNil))) fNil))) (fCons (fCst (.int 8191)) fNil))) (fCons (fVar 1) fNil)))) (bNil)

def tf_law_take_3 : SF := bCons (sSubL 0 (fCst (.int 1)) (fOp oAdd (fCons (fOp oMod (fCons (fOp oAdd (fCons (fOp oMul (fCons (fVar 2) (fCons (fCst (.int 48271)) fNil))) (fCons (fCst (.int 30103)) fNil))) (fCons (fCst (.int 2147483629)) fNil))) (fCons (fCst (.int 1)) fNil)))) (tf_law_take_2)

def tf_law_take_4 : SF := bCons (sAsg (fOp oMod (fCons (fOp oMul (fCons (fOp oAdd (fCons (fOp oIx (fCons (fBor 0) (fCons (fCst (.int 1)) fNil))) (fCons (fOp oMul (fCons (fCst (.int 104729)) (fCons (fOp oIx (fCons (fBor 0) (fCons (fCst (.int 2)) fNil))) fNil))) fNil))) (fCons (fCst (.int 69623)) fNil))) (fCons (fCst (.int 2147483647)) fNil))) (gNm 2)) (tf_law_take_3)

def tf_law_take_5 : SF := bCons (sSubL 0 (fCst (.int 2)) (fOp oAdd (fCons (fOp oIx (fCons (fBor 0) (fCons (fCst (.int 2)) fNil))) (fCons (fCst (.int 1)) fNil)))) (tf_law_take_4)

/-- ['_law_box_here', '_law_many', '_law_one', '_law_digit'] mut [0] -/
def tf_law_take : SF := bCons (sIf (fTest (fOp oGt (fCons (fOp oIx (fCons (fBor 0) (fCons (fCst (.int 0)) fNil))) (fCons (fCst (.int 0)) fNil)))) (bCons (sAsg (fOp oMod (fCons (fOp oIx (fCons (fBor 0) (fCons (fCst (.int 0)) fNil))) (fCons (fVar 1) fNil))) (gNm 3)) (tf_law_take_1)) (bNil)) (tf_law_take_5)

def tf_steps_between_1 : SF := bCons (sRet (fOp oTup (fCons (fVar 3) (fCons (fOp oSub (fCons (fVar 0) (fCons (fVar 3) fNil))) (fNil))))) (bNil)

/-- ['long', 'place', 'other', 'up'] mut [] -/
def tf_steps_between : SF := bCons (sAsg (fOp oMod (fCons (fOp oSub (fCons (fVar 2) (fCons (fVar 1) fNil))) (fCons (fVar 0) fNil))) (gNm 3)) (tf_steps_between_1)

/-- ['long', 'place', 'other', 'beats', 'steps'] mut [] -/
def tf_can_come : SF := bCons (sRet (fOp oAny (fCons (fLc [4] (iTup (fCall S_steps_between [.v, .v, .v] [] (fCons (fVar 0) (fCons (fVar 1) (fCons (fVar 2) (fNil)))))) (gNm 4) (tYesF) (fAndV (fOp oLe (fCons (fVar 4) (fCons (fVar 3) fNil))) (fOp oEqS (fCons (fOp oMod (fCons (fOp oSub (fCons (fVar 3) (fCons (fVar 4) fNil))) (fCons (fCst (.int 2)) fNil))) (fCons (fCst (.int 0)) fNil))))) (fNil)))) (bNil)

def tf_law_1 : SF := bCons (sIf (fOr (fNot (fTest (fIsi .bl (fVar 11)))) (fOr (fTest (fOp oNeS (fCons (fVar 11) (fCons (fOp oIx (fCons (fVar 9) (fCons (fVar 10) fNil))) fNil)))) (fTest (fOp oNeS (fCons (fCall S_can_come [.v, .v, .v, .v] [] (fCons (fVar 3) (fCons (fVar 10) (fCons (fVar 6) (fCons (fVar 8) (fNil)))))) (fCons (fVar 11) fNil)))))) (bCons (sRet (fCst (.bool false))) (bNil)) (bNil)) (bKill [10, 11] (bNil))

def tf_law_2 : SF := bCons (sAsg (fCall S_can_come [.v, .v, .v, .v] [] (fCons (fVar 3) (fCons (fVar 6) (fCons (fVar 10) (fCons (fVar 8) (fNil)))))) (gNm 11)) (tf_law_1)

def tf_law_3 : SF := bKill [10, 11] (bCons (sFor (iLst (fFrz 5)) (gNm 10) (tf_law_2)) (bKill [8, 9, 10, 11] (bNil)))

def tf_law_4 : SF := bKill [8, 9, 10, 11] (bCons (sFor (iEnumL (fCons (fFrz 4) (fNil))) (gTp 2 (gC (gNm 8) (gC (gNm 9) (gN)))) (tf_law_3)) (bKill [1, 2, 3, 4, 5, 6, 7, 8, 9, 10, 11] (bNil)))

def tf_law_5 : SF := bCons (sAsg (fOp oCatL (fCons (fOp oLst (fCons (fVar 6) (fNil))) (fCons (fLc [12] (iRg1 (fCons (fCst (.int 3)) (fNil))) (gNm 12) (tYesF) (fCall S_law_take [.l, .v] [] (fCons (fBor 2) (fCons (fVar 3) (fNil))))) fNil))) (gNm 5)) (tf_law_4)

def tf_law_6 : SF := bCons (sAsg (fCall S_law_reached [.v, .v, .v] [] (fCons (fVar 3) (fCons (fVar 6) (fCons (fOp oIx (fCons (fOp oLst (fCons (fCall S_law_take [.l, .v] [] (fCons (fBor 2) (fCons (fCst (.int 141)) (fNil)))) (fCons (fCst (.int 2000)) (fNil)))) (fCons (fOp oInt (fCons (fVar 7) (fNil))) fNil))) (fNil))))) (gNm 4)) (tf_law_5)

def tf_law_7 : SF := bCons (sPar 6 7 (fCons (fCall S_law_take [.l, .v] [] (fCons (fBor 2) (fCons (fVar 3) (fNil)))) (fCons (fAndV (fOp oEqS (fCons (fCall S_law_take [.l, .v] [] (fCons (fBor 2) (fCons (fCst (.int 4)) (fNil)))) (fCons (fCst (.int 0)) fNil))) (fOp oEqS (fCons (fVar 1) (fCons (fCst (.int 0)) fNil)))) (fNil)))) (tf_law_6)

def tf_law_8 : SF := bCons (sAsg (fOp oAdd (fCons (fCst (.int 1)) (fCons (fCall S_law_take [.l, .v] [] (fCons (fBor 2) (fCons (fOp oIx (fCons (fOp oLst (fCons (fCst (.int 4)) (fCons (fCst (.int 9)) (fCons (fCst (.int 60)) (fNil))))) (fCons (fCall S_law_take [.l, .v] [] (fCons (fBor 2) (fCons (fCst (.int 3)) (fNil)))) fNil))) (fNil)))) fNil))) (gNm 3)) (tf_law_7)

def tf_law_9 : SF := bCons (sAsg (fCall S_law_box [.v, .v] [] (fCons (fVar 0) (fCons (fVar 1) (fNil)))) (gNm 2)) (tf_law_8)

/-- ['_law_script', '_law_k', '_law_box_here', '_law_long', '_law_rows', '_law_goals', '_law_place', '_law_great', '_law_many', '_law_row', '_law_goal', '_law_found', '_law_lap'] mut [] -/
def tf_law : SF := bKill [1, 2, 3, 4, 5, 6, 7, 8, 9, 10, 11] (bCons (sFor (iRg1 (fCons (fOp oMax2 (fCons (fCst (.int 2)) (fCons (fOp oMin2 (fCons (fCst (.int 5)) (fCons (fOp oLen (fCons (fVar 0) (fNil))) (fNil)))) (fNil)))) (fNil))) (gNm 1) (tf_law_9)) (bCons (sRet (fCst (.bool true))) (bNil)))

end PW
end TFk38
section PFk38
set_option maxRecDepth 100000
set_option maxHeartbeats 1000000
/-! PFk38: the promises are kept. -/
namespace PW
open PySem L2
open PyProof.Rows hiding St
local macro_rules | `(tactic| walk_at "pw") => `(tactic| simp only [bCons, bNil, bKill, killS, sAsg, sRet, sIf, sDrop, sPar, sFor, fCall, pass, fLc, iRg1, iRg2, iLst, iTup, iEnumL, seqOf, tYesF, ownsOf, putBack, keepD, gTp, gC, gN, fOp, fCons, fNil, fVar, fBor, fCst, fMv, fFrz, fFz, withR, gNm, fTest, fNot, fOr, fAnd, fAndV, fOrV, fIsi, tyOf, Ty.isi, oAdd, oSub, oMul, oDiv, oMod, oPow, oNeg, oCmp, oEqS, oNeS, oTup, oLst, datas, oLen, oIx, oInt, oMax2, oMin2, oCatL, sSubL, fMut, mApp, boxT, CDiv, CMul, CPow, List.replicate, List.cons_append, List.nil_append, List.getElem?_cons_zero, List.getElem?_cons_succ, List.getD_cons_zero, List.getD_cons_succ, List.set_cons_zero, List.set_cons_succ, List.length_cons, List.length_nil, List.length_map, sizeLine_eq, Nat.reduceAdd, Nat.reduceLeDiff, Nat.reduceLT, true_and, and_true, true_or, or_true, and_self, Bool.false_eq_true, if_true, if_false, decide_eq_true_eq, atI0, atI1, atI2, at_pick, ixN, Option.bind_some, Int.reduceLE, Int.reduceLT, Int.reduceNeg, Int.reduceToNat, Int.reduceAdd, Int.reducePow, Int.reduceMul, Int.reduceAbs, Nat.reducePow, Int.cast_ofNat_Int, Int.toNat_zero, Int.toNat_one, ↓reduceIte, Std.le_refl, List.map_nil, List.append_nil, List.tail_cons, List.headD_cons, List.take_succ_cons, List.take_zero, List.take_nil])
theorem p_steps_between (ss : List Slot) (R : T → List Slot → Prop) (hl : ss.length = 3) (h : S_steps_between ss R) : tf_steps_between { nx := fun ρ => R (.d .none) (finS [] 3 ρ), rt := fun t ρ => R t (finS [] 3 ρ) } (ss ++ List.replicate 1 .un) := by
  obtain ⟨L, p, o, rfl, hL, h⟩ := h
  simp only [tf_steps_between, tf_steps_between_1]
  walk_at "pw"
  exact ⟨hL, h _⟩
theorem p_law_take (ss : List Slot) (R : T → List Slot → Prop) (hl : ss.length = 2) (h : S_law_take ss R) : tf_law_take { nx := fun ρ => R (.d .none) (finS [0] 2 ρ), rt := fun t ρ => R t (finS [0] 2 ρ) } (ss ++ List.replicate 2 .un) := by
  obtain ⟨a, b, c, n, rfl, hn, hn2, h⟩ := h
  simp only [tf_law_take, tf_law_take_1, tf_law_take_2, tf_law_take_3, tf_law_take_4, tf_law_take_5]
  walk_at "pw"
  refine ite2 (fun _ => ⟨hn, ⟨hn, hn2⟩, h _ _ _ _ _ (Int.emod_nonneg _ (by omega)) (Int.emod_lt_of_pos _ hn)⟩) fun _ => ⟨hn, h _ _ _ _ _ (Int.emod_nonneg _ (by omega)) (Int.emod_lt_of_pos _ hn)⟩
theorem pow18 : Int.natAbs 10 < 2 ^ 64 := by decide
theorem p_law_box (ss : List Slot) (R : T → List Slot → Prop) (hl : ss.length = 2) (h : S_law_box ss R) : tf_law_box { nx := fun ρ => R (.d .none) (finS [] 2 ρ), rt := fun t ρ => R t (finS [] 2 ρ) } (ss ++ List.replicate 2 .un) := by
  obtain ⟨ns, k, rfl, hk, h⟩ := h
  simp only [tf_law_box, tf_law_box_1, tf_law_box_2, tf_law_box_3]
  walk_at "pw"
  have fin : ∀ {c : Prop} [Decidable c] {x y z : Int} {σ : List Slot}, R (.ls [if c then .int x else .int 0, .int y, .int z]) σ := by
    intro c _ x y z σ
    by_cases hc : c
    · rw [if_pos hc]; exact h _ _ _ _
    · rw [if_neg hc]; exact h _ _ _ _
  refine ite2 (fun h1 => ?_) fun h1 => ite2 (fun h2 => ⟨h2, ?_⟩) fun h2 => fin
  · obtain ⟨z, hz⟩ := at_ints hk h1
    rw [hz]
    walk_at "pw"
    exact fin
  · obtain ⟨z, hz⟩ := at_ints (ns := ns) (k := k % ns.length) (Int.emod_nonneg _ (by omega)) (Int.emod_lt_of_pos _ h2)
    rw [hz]
    walk_at "pw"
    exact fin
theorem p_can_come (ss : List Slot) (R : T → List Slot → Prop) (hl : ss.length = 4) (h : S_can_come ss R) : tf_can_come { nx := fun ρ => R (.d .none) (finS [] 4 ρ), rt := fun t ρ => R t (finS [] 4 ρ) } (ss ++ List.replicate 1 .un) := by
  obtain ⟨L, p, o, t, rfl, hL, h⟩ := h
  unfold tf_can_come
  walk_at "pw"
  refine ⟨L, p, o, rfl, hL, fun fin => ?_⟩
  refine lpC_map (fun d => match d with | .int s => .bool (decide (s ≤ t) && decide ((t - s) % 2 = 0)) | _ => .none) (by rw [sizeLine_eq]; show 2 ≤ _; decide) ?_ ?_
  · walk_at "pw"
    refine ⟨_, [decide ((o - p) % L ≤ t) && decide ((t - (o - p) % L) % 2 = 0), decide (L - (o - p) % L ≤ t) && decide ((t - (L - (o - p) % L)) % 2 = 0)], rfl, rfl, ?_⟩
    have := h (finS [] 4 [.own (.d (.int L)), .own (.d (.int p)), .own (.d (.int o)), .own (.d (.int t)), .un])
    unfold canB at this
    simpa using this
  · intro x k1 hx hk
    have : ∃ s, x = .int s := by
      simp only [List.mem_cons, List.not_mem_nil, or_false] at hx
      rcases hx with rfl | rfl <;> exact ⟨_, rfl⟩
    obtain ⟨s, rfl⟩ := this
    walk_at "pw"
    refine ite2 (fun h1 => ?_) fun h1 => ?_
    · simpa [h1] using hk
    · simpa [h1] using hk
theorem p_law_reached (ss : List Slot) (R : T → List Slot → Prop) (hl : ss.length = 3) (h : S_law_reached ss R) : tf_law_reached { nx := fun ρ => R (.d .none) (finS [] 3 ρ), rt := fun t ρ => R t (finS [] 3 ρ) } (ss ++ List.replicate 4 .un) := by
  obtain ⟨L, p, m, rfl, hL, hL2, hm, hm2, h⟩ := h
  simp only [tf_law_reached, tf_law_reached_1, tf_law_reached_2, tf_law_reached_3]
  walk_at "pw"
  refine ⟨by omega, ?_⟩
  have hz : (upto 0 L.toNat).length ≤ sizeLine := by rw [upto_length, sizeLine_eq]; omega
  refine lpC_map (fun d => match d with | .int s => .bool (rch L p 0 s) | _ => .none) hz ?_ ?_
  · show _
    have e0 : (upto 0 L.toNat).map (fun d => match d with | .int s => .bool (rch L p 0 s) | _ => .none) = rowL L p 0 := rfl
    rw [e0]
    walk_at "pw"
    refine ⟨⟨by omega, by omega⟩, ?_⟩
    refine lp_at (fun i ρ => ρ = [.own (.d (.int L)), .own (.d (.int p)), .own (.d (.int m)), .own (.ls ((List.range (i + 1)).map (rowD L p))), .un, .un, .un]) rfl ?_ ?_
    · rintro ρ rfl
      rw [upto_length]
      walk_at "pw"
      exact h _
    · rintro i x ρ k hx rfl hk
      obtain ⟨hi, rfl⟩ := upto_at hx
      have e : (List.range (i + 1)).map (rowD L p) = (List.range i).map (rowD L p) ++ [rowD L p i] := by rw [List.range_succ, List.map_append]; rfl
      walk_at "pw"
      rw [e, atI_neg1]
      dsimp only
      refine ⟨by omega, ?_⟩
      refine lpC_map (fun d => match d with | .int s => .bool (rch L p (i + 1) s) | _ => .none) hz ?_ ?_
      · have e1 : (upto 0 L.toNat).map (fun d => match d with | .int s => .bool (rch L p (i + 1) s) | _ => .none) = rowL L p (i + 1) := rfl
        rw [e1]
        walk_at "pw"
        have e2 : (List.range (i + 1 + 1)).map (rowD L p) = (List.range i).map (rowD L p) ++ [rowD L p i] ++ [.list (rowL L p (i + 1))] := by rw [List.range_succ, List.map_append, e]; rfl
        refine ⟨by simp; omega, hk _ ?_⟩
        rw [e2]
      · intro x k1 hx hk1
        obtain ⟨s, hs, rfl⟩ := upto_mem hx
        have hsL : (s : Int) < L := by omega
        simp only [rowD]
        walk_at "pw"
        have at1 : ∀ j : Int, 0 ≤ j → j < L → atI (rowL L p i) j = some (.bool (rch L p i j)) := fun j h0 h1 => by
          refine atI_of h0 ?_
          unfold rowL
          rw [List.getElem?_map, upto_get _ _ _ (by omega)]
          have e3 : (0 : Int) + (j.toNat : Int) = j := by omega
          rw [e3]
          rfl
        rw [at1 _ (Int.emod_nonneg _ (by omega)) (Int.emod_lt_of_pos _ hL), at1 _ (Int.emod_nonneg _ (by omega)) (Int.emod_lt_of_pos _ hL)]
        refine ⟨hL, ?_⟩
        have hk2 : k1 (.bool (rch L p i ((0 + (s : Int) + L - 1) % L) || rch L p i ((0 + (s : Int) + 1) % L))) _ := hk1
        dsimp only
        cases hb : rch L p i ((0 + (s : Int) + L - 1) % L) with
        | true => rw [hb] at hk2; exact hk2
        | false => rw [hb] at hk2; exact ⟨hL, hk2⟩
  · intro x k1 hx hk1
    obtain ⟨s, hs, rfl⟩ := upto_mem hx
    walk_at "pw"
    exact hk1
/-! ### the mathematics -/
theorem can_sym (L p o t : Int) (hL : 0 < L) : canB L p o t = canB L o p t := by
  unfold canB
  have h1 : 0 ≤ (o - p) % L := Int.emod_nonneg _ (by omega)
  have h2 : (o - p) % L < L := Int.emod_lt_of_pos _ hL
  by_cases hu : (o - p) % L = 0
  · have : (p - o) % L = 0 := by
      have : L ∣ (o - p) := Int.dvd_of_emod_eq_zero hu
      have : L ∣ (p - o) := by
        have h := Int.dvd_neg.mpr this
        rwa [Int.neg_sub] at h
      exact Int.emod_eq_zero_of_dvd this
    rw [hu, this]
  · have e : (p - o) % L = L - (o - p) % L := by
      have e1 : p - o = (L - (o - p) % L) + L * (-((o - p) / L) - 1) := by
        have := Int.mul_ediv_add_emod (o - p) L
        have e2 : L * (-((o - p) / L) - 1) = -(L * ((o - p) / L)) - L := by rw [Int.mul_sub, Int.mul_neg, Int.mul_one]
        omega
      rw [e1, Int.add_mul_emod_self_left]
      exact Int.emod_eq_of_lt (by omega) (by omega)
    rw [e]
    have e3 : L - (L - (o - p) % L) = (o - p) % L := by omega
    rw [e3, Bool.or_comm]
theorem rch_can (L p : Int) (hL : 0 < L) (hp : 0 ≤ p) (hp2 : p < L) : ∀ (t : Nat) (s : Int), 0 ≤ s → s < L → rch L p t s = canB L p s t
  | 0, s, h0, h1 => by
    unfold rch canB
    have a1 : 0 ≤ (s - p) % L := Int.emod_nonneg _ (by omega)
    have a2 : (s - p) % L < L := Int.emod_lt_of_pos _ hL
    have : (s = p) ↔ (s - p) % L = 0 := by
      constructor
      · intro e; rw [e]; simp
      · intro e
        have : L ∣ (s - p) := Int.dvd_of_emod_eq_zero e
        obtain ⟨k, hk⟩ := this
        have hk0 : k = 0 := by
          rcases Int.lt_trichotomy k 0 with z | z | z
          · have : L * k ≤ L * (-1) := Int.mul_le_mul_of_nonneg_left (by omega) (by omega)
            omega
          · exact z
          · have : L * 1 ≤ L * k := Int.mul_le_mul_of_nonneg_left (by omega) (by omega)
            omega
        rw [hk0] at hk
        omega
    rw [Bool.eq_iff_iff]
    simp only [decide_eq_true_eq, Bool.or_eq_true, Bool.and_eq_true]
    constructor
    · intro e
      have := this.mp e
      left
      omega
    · rintro (⟨e, _⟩ | ⟨e, _⟩)
      · exact this.mpr (by omega)
      · omega
  | t + 1, s, h0, h1 => by
    unfold rch
    rw [rch_can L p hL hp hp2 t _ (Int.emod_nonneg _ (by omega)) (Int.emod_lt_of_pos _ hL), rch_can L p hL hp hp2 t _ (Int.emod_nonneg _ (by omega)) (Int.emod_lt_of_pos _ hL)]
    have a1 : 0 ≤ (s - p) % L := Int.emod_nonneg _ (by omega)
    have a2 : (s - p) % L < L := Int.emod_lt_of_pos _ hL
    have d1 : ((s + L - 1) % L - p) % L = if (s - p) % L = 0 then L - 1 else (s - p) % L - 1 := by
      have e1 : ((s + L - 1) % L - p) % L = ((s - p) % L + (L - 1)) % L := by
        rw [Int.emod_sub_emod, Int.emod_add_emod]
        congr 1
        omega
      rw [e1]
      split
      · rename_i h; rw [h, Int.zero_add]; exact Int.emod_eq_of_lt (by omega) (by omega)
      · have e2 : (s - p) % L + (L - 1) = ((s - p) % L - 1) + L := by omega
        rw [e2, Int.add_emod_right]
        exact Int.emod_eq_of_lt (by omega) (by omega)
    have d2 : ((s + 1) % L - p) % L = if (s - p) % L = L - 1 then 0 else (s - p) % L + 1 := by
      have e1 : ((s + 1) % L - p) % L = ((s - p) % L + 1) % L := by
        rw [Int.emod_sub_emod, Int.emod_add_emod]
        congr 1
        omega
      rw [e1]
      split
      · rename_i h; rw [h]
        have : L - 1 + 1 = L := by omega
        rw [this]; exact Int.emod_self
      · exact Int.emod_eq_of_lt (by omega) (by omega)
    unfold canB
    rw [d1, d2]
    generalize (s - p) % L = u at a1 a2
    rw [Bool.eq_iff_iff]
    simp only [decide_eq_true_eq, Bool.or_eq_true, Bool.and_eq_true]
    push_cast
    split <;> split <;> omega
theorem p_law (ss : List Slot) (R : T → List Slot → Prop) (hl : ss.length = 1) (h : S_law ss R) : tf_law { nx := fun ρ => R (.d .none) (finS [] 1 ρ), rt := fun t ρ => R t (finS [] 1 ρ) } (ss ++ List.replicate 12 .un) := by
  obtain ⟨ns, rfl, hns, h⟩ := h
  simp only [tf_law]
  walk_at "pw"
  refine ⟨by split <;> split <;> omega, ?_⟩
  refine lp_at (fun i ρ => ρ = [.own (.d (.list (ns.map .int))), .un, .un, .un, .un, .un, .un, .un, .un, .un, .un, .un, .un]) rfl ?_ ?_
  · rintro ρ rfl
    walk_at "pw"
    exact h _
  rintro i x ρ k hx rfl hk
  obtain ⟨hi, rfl⟩ := upto_at hx
  simp only [tf_law_9]
  walk_at "pw"
  refine ⟨ns, _, rfl, by omega, fun a b c fin => ?_⟩
  simp only [tf_law_8]
  walk_at "pw"
  refine ⟨a, b, c, 3, rfl, by omega, by omega, fun r a b c f h0 h1 => ?_⟩
  walk_at "pw"
  obtain ⟨z, hz, hz1, hz2⟩ : ∃ z : Int, atI [PyData.int 4, PyData.int 9, PyData.int 60] r = some (.int z) ∧ 1 ≤ z ∧ z ≤ 60 := by
    have : r = 0 ∨ r = 1 ∨ r = 2 := by omega
    rcases this with rfl | rfl | rfl
    · exact ⟨4, atI0 _ _, by omega, by omega⟩
    · exact ⟨9, atI1 _ _ _, by omega, by omega⟩
    · exact ⟨60, atI2 _ _ _ _, by omega, by omega⟩
  rw [hz]
  walk_at "pw"
  refine ⟨a, b, c, z, rfl, by omega, by omega, fun l a b c f l0 l1 => ?_⟩
  walk_at "pw"
  obtain ⟨L, hL⟩ : ∃ L, L = 1 + l := ⟨_, rfl⟩
  rw [← hL]
  have hL0 : 0 < L := by omega
  have hL60 : L ≤ 60 := by omega
  simp only [tf_law_7]
  walk_at "pw"
  refine ⟨a, b, c, L, rfl, hL0, by omega, fun p a b c f p0 p1 => ?_⟩
  walk_at "pw"
  refine ⟨a, b, c, 4, rfl, by omega, by omega, fun q a b c f q0 q1 => ?_⟩
  walk_at "pw"
  -- whatever the truth is
  have rest : ∀ g : Bool, tf_law_6 { nx := k, rt := fun t ρ => R t (finS [] 1 ρ), bk := fun ρ1 => R (T.d (PyData.bool true)) (finS [] 1 ρ1), ct := k }
      [.own (.d (.list (ns.map .int))), .own (.d (.int (0 + i))), .own (.ls [.int a, .int b, .int c]), .own (.d (.int L)), .un, .un, .own (.d (.int p)), .own (.d (.bool g)), .un, .un, .un, .un, .un] := by
    intro g
    simp only [tf_law_6]
    walk_at "pw"
    refine ⟨a, b, c, 141, rfl, by omega, by omega, fun m a b c f m0 m1 => ?_⟩
    walk_at "pw"
    obtain ⟨m, hm, m0, m1⟩ : ∃ z : Int, (if g = true then PyData.int 2000 else PyData.int m) = .int z ∧ 0 ≤ z ∧ z ≤ 2000 := by
      cases g with
      | true => exact ⟨2000, rfl, by omega, by omega⟩
      | false => exact ⟨m, rfl, by omega, by omega⟩
    rw [hm]
    refine ⟨L, p, m, rfl, hL0, hL60, m0, m1, fun fin => ?_⟩
    simp only [tf_law_5]
    walk_at "pw"
    refine lpC_at (fun j acc ρ => ∃ (gs : List Int) (a b c : Int), acc = gs.map .int ∧ (∀ x ∈ gs, 0 ≤ x ∧ x < L) ∧ gs.length = j ∧ ρ = [.own (.d (.list (ns.map .int))), .own (.d (.int (0 + i))), .own (.ls [.int a, .int b, .int c]), .own (.d (.int L)), .own (.ls ((List.range (m.toNat + 1)).map (rowD L p))), .un, .own (.d (.int p)), .own (.d (.bool g)), .un, .un, .un, .un, .un]) ⟨[], a, b, c, rfl, by simp, rfl, rfl⟩ (by rw [upto_length, sizeLine_eq]; omega) ?_ ?_
    · rintro acc ρ ⟨gs, a, b, c, rfl, hgs, hlen, rfl⟩
      rw [upto_length] at hlen
      walk_at "pw"
      refine ⟨by omega, ?_⟩
      simp only [tf_law_4]
      walk_at "pw"
      refine lp_at (fun j ρ => ∃ t5, (t5 = .ls (.int p :: gs.map .int) ∨ t5 = .d (.list (.int p :: gs.map .int))) ∧ ρ = [.own (.d (.list (ns.map .int))), .own (.d (.int (0 + i))), .own (.ls [.int a, .int b, .int c]), .own (.d (.int L)), .own (.d (.list ((List.range (m.toNat + 1)).map (rowD L p)))), .own t5, .own (.d (.int p)), .own (.d (.bool g)), .un, .un, .un, .un, .un]) ⟨_, .inl rfl, rfl⟩ ?_ ?_
      · rintro ρ ⟨t5, _, rfl⟩
        walk_at "pw"
        exact hk _ rfl
      rintro j x ρ k2 hx2 ⟨t5, ht5, rfl⟩ hk2
      have hj : j < m.toNat + 1 := by
        have := (List.getElem?_eq_some_iff.mp hx2).1
        rwa [enumD_length, List.length_map, List.length_range] at this
      have hxe : x = .tuple [.int (j : Nat), rowD L p j] := by
        rw [enumD_get _ 0 j (rowD L p j) (by rw [List.getElem?_map, List.getElem?_range hj]; rfl), Nat.zero_add] at hx2
        exact (Option.some.inj hx2).symm
      subst hxe
      have hjm : j < (List.range (m.toNat + 1)).length := by rw [List.length_range]; exact hj
      have inner : ∀ (t5 : T) (bk ct kk : List Slot → Prop) ρ, (∀ x y, kk [Slot.own (.d (.list (ns.map .int))), .own (.d (.int (0 + i))), .own (.ls [.int a, .int b, .int c]), .own (.d (.int L)), .own (.d (.list ((List.range (m.toNat + 1)).map (rowD L p)))), .own t5, .own (.d (.int p)), .own (.d (.bool g)), .own (.d (.int (j : Nat))), .own (.d (rowD L p j)), x, y, .un]) → ρ = [Slot.own (.d (.list (ns.map .int))), .own (.d (.int (0 + i))), .own (.ls [.int a, .int b, .int c]), .own (.d (.int L)), .own (.d (.list ((List.range (m.toNat + 1)).map (rowD L p)))), .own t5, .own (.d (.int p)), .own (.d (.bool g)), .own (.d (.int (j : Nat))), .own (.d (rowD L p j)), .un, .un, .un] →
          lp (gNm 10) tf_law_2 { nx := kk, rt := fun t ρ => R t (finS [] 1 ρ), bk := bk, ct := ct } (.int p :: gs.map .int) ρ := by
        intro t5 bk ct kk ρ hkk hρ
        refine lp_at (fun _ ρ => ρ = [Slot.own (.d (.list (ns.map .int))), .own (.d (.int (0 + i))), .own (.ls [.int a, .int b, .int c]), .own (.d (.int L)), .own (.d (.list ((List.range (m.toNat + 1)).map (rowD L p)))), .own t5, .own (.d (.int p)), .own (.d (.bool g)), .own (.d (.int (j : Nat))), .own (.d (rowD L p j)), .un, .un, .un]) hρ ?_ ?_
        · rintro ρ rfl
          exact hkk _ _
        rintro jj x ρ k3 hx3 rfl hk3
        obtain ⟨z, rfl, z0, z1⟩ : ∃ z : Int, x = .int z ∧ 0 ≤ z ∧ z < L := by
          have := List.mem_of_getElem? hx3
          rcases List.mem_cons.mp this with rfl | hm2
          · exact ⟨p, rfl, p0, p1⟩
          · obtain ⟨w, hw, rfl⟩ := List.mem_map.mp hm2
            exact ⟨w, rfl, hgs w hw⟩
        have at1 : atI (rowL L p j) z = some (.bool (rch L p j z)) := by
          refine atI_of z0 ?_
          unfold rowL
          rw [List.getElem?_map, upto_get _ _ _ (by omega)]
          have e3 : (0 : Int) + (z.toNat : Int) = z := by omega
          rw [e3]
          rfl
        have e1 : canB L p z (j : Nat) = rch L p j z := (rch_can L p hL0 p0 p1 j z z0 z1).symm
        have e2 : canB L z p (j : Nat) = rch L p j z := by rw [can_sym L z p _ hL0]; exact e1
        simp only [tf_law_2, tf_law_1]
        walk_at "pw"
        refine ⟨L, p, z, (j : Nat), rfl, hL0, fun fin => ?_⟩
        walk_at "pw"
        have er : rowD L p j = .list (rowL L p j) := rfl
        rw [er]
        walk_at "pw"
        rw [at1, e1]
        walk_at "pw"
        refine ⟨L, z, p, (j : Nat), rfl, hL0, fun fin => ?_⟩
        rw [e2]
        walk_at "pw"
        rw [if_neg (by simp)]
        exact hk3 _ rfl
      simp only [tf_law_3]
      rcases ht5 with rfl | rfl
      · walk_at "pw"
        refine inner _ _ _ _ _ (fun x y => ?_) rfl
        walk_at "pw"
        exact hk2 _ ⟨_, .inr rfl, rfl⟩
      · walk_at "pw"
        refine inner _ _ _ _ _ (fun x y => ?_) rfl
        walk_at "pw"
        exact hk2 _ ⟨_, .inr rfl, rfl⟩
    · rintro j x acc ρ k1 k2 hx2 ⟨gs, a, b, c, rfl, hgs, hlen, rfl⟩ h1 h2
      obtain ⟨hj, rfl⟩ := upto_at hx2
      walk_at "pw"
      refine ⟨a, b, c, L, rfl, hL0, by omega, fun r a b c f r0 r1 => ?_⟩
      walk_at "pw"
      refine h1 _ _ ⟨gs ++ [r], a, b, c, by simp, ?_, by simp [hlen], rfl⟩
      intro x hx
      rcases List.mem_append.mp hx with z | z
      · exact hgs x z
      · have : x = r := by simpa using z
        subst this; exact ⟨r0, r1⟩
  refine ite2 (fun _ => rest _) fun _ => rest _
end PW
end PFk38
section DVk38
set_option maxRecDepth 100000
set_option maxHeartbeats 4000000
/-! printed by gen.py: the derivations of k38 -/
namespace PW
open PySem PySem.Spec L2
open PyProof.Rows hiding St

def topS (i : Nat) : Stmt := PySem.Challenge.pw_turnround_k38_comes_in_just_so_many.main.body.getD i (.Pass ⟨0, 0, 0, 0⟩)
abbrev s_law_box : Stmt := topS 4
abbrev s_law_reached : Stmt := topS 6
abbrev s_law_take : Stmt := topS 5
abbrev s_steps_between : Stmt := topS 1
abbrev s_can_come : Stmt := topS 2
abbrev s_law : Stmt := topS 7
structure Tx (mg : Str → Option Value) : Prop where
  m_any : mg "any" = none
  m_bool : mg "bool" = none
  m_enumerate : mg "enumerate" = none
  m_int : mg "int" = none
  m_isinstance : mg "isinstance" = none
  m_len : mg "len" = none
  m_max : mg "max" = none
  m_min : mg "min" = none
  m_range : mg "range" = none
section
variable {Pg : Program} {w : World} {K : PySem.W.Frag} {mg : Str → Option Value} {base : Heap}
abbrev N_law_box : List Str := ["_law_script", "_law_k", "_law_cell", "_law_seed"]
theorem sc_law_box : FnScope N_law_box ["_law_script", "_law_k"] (defScope s_law_box) := ⟨rfl, rfl, rfl, by decide +kernel, rfl, by decide +kernel, by decide +kernel⟩
theorem ok_law_box {fa : Addr} {fd : FuncData} (F : Fun K "_law_box" "_law_box" s_law_box fa fd) (T : Tx mg)  : FnOk Pg w K mg base CX0 1 fa fd ["_law_script", "_law_k"] (spO K 2 S_law_box) :=
  fn_ok (fx := []) (N := N_law_box) (k := 0) F sc_law_box rfl (fun cdv A outer s H E hr => show VSs _ _ _ tf_law_box from (vss_cons (vs_asg (ve_add (ve_mul ve_int (ve_var (pv 1))) ve_int) (vg_nm (pg_name (i := 2) sc_law_box.nd rfl (by first | exact .inl rfl | exact .inr rfl)) ⟨_, rfl⟩ (by decide))) (vss_cons (vs_if (vt_cmp op_lt oc_lt (ve_var (pv 1)) (ve_callB call_len oc_len (by rfl) T.m_len boot_len (va_cons (ve_var (pv 0)) va_nil)) (nomark _)) (vss_cons (vs_asg (ve_ixs (ve_var (pv 0)) (ve_var (pv 1))) (vg_nm (pg_name (i := 2) sc_law_box.nd rfl (by first | exact .inl rfl | exact .inr rfl)) ⟨_, rfl⟩ (by decide))) vss_nil) (vss_cons (vs_if (vt_cmp op_gt oc_gt (ve_callB call_len oc_len (by rfl) T.m_len boot_len (va_cons (ve_var (pv 0)) va_nil)) ve_int (nomark _)) (vss_cons (vs_asg (ve_add (ve_var (pv 2)) (ve_mul (ve_mod (ve_ixs (ve_var (pv 0)) (ve_mod (ve_var (pv 1)) (ve_callB call_len oc_len (by rfl) T.m_len boot_len (va_cons (ve_var (pv 0)) va_nil)))) ve_int) ve_int)) (vg_nm (pg_name (i := 2) sc_law_box.nd rfl (by first | exact .inl rfl | exact .inr rfl)) ⟨_, rfl⟩ (by decide))) vss_nil) vss_nil) vss_nil)) (vss_cons (vs_asg (ve_add (ve_mod (ve_add (ve_mul (ve_mod (ve_var (pv 2)) ve_int) ve_int) (ve_mul ve_int (ve_var (pv 1)))) ve_int) ve_int) (vg_nm (pg_name (i := 3) sc_law_box.nd rfl (by first | exact .inl rfl | exact .inr rfl)) ⟨_, rfl⟩ (by decide))) (vss_cons (vs_ret (ve_lst (va_cons (ve_ixs (ve_lst (va_cons ve_int (va_cons (ve_var (pv 2)) va_nil))) (ve_callTy call_int1 oc_int (by rfl) T.m_int boot_int (va_cons (ve_cmp op_ge oc_ge (ve_var (pv 2)) (ve_pow ve_int ve_int) (nomark _)) va_nil))) (va_cons (ve_var (pv 3)) (va_cons ve_int va_nil))))) vss_nil))))) fun ss R hl hS => p_law_box ss R hl hS
abbrev N_law_reached : List Str := ["_law_long", "_law_place", "_law_many", "_law_rows", "_law_lap", "_law_now", "_law_spot"]
theorem sc_law_reached : FnScope N_law_reached ["_law_long", "_law_place", "_law_many"] (defScope s_law_reached) := ⟨rfl, rfl, rfl, by decide +kernel, rfl, by decide +kernel, by decide +kernel⟩
theorem ok_law_reached {fa : Addr} {fd : FuncData} (F : Fun K "_law_reached" "_law_reached" s_law_reached fa fd) (T : Tx mg)  : FnOk Pg w K mg base CX0 1 fa fd ["_law_long", "_law_place", "_law_many"] (spO K 3 S_law_reached) :=
  fn_ok (fx := []) (N := N_law_reached) (k := 0) F sc_law_reached rfl (fun cdv A outer s H E hr => show VSs _ _ _ tf_law_reached from (vss_cons (vs_asg (ve_lst (va_cons (ve_fz (ve_lc (n := 7) (vs := [6]) rfl rfl rfl sc_law_reached.nd (vi_rg1 (by rfl) T.m_range (va_cons (ve_var (pv 0)) va_nil)) (blkOk_by (own := [("_law_spot", 6)]) (N := N_law_reached) (sc := defScope s_law_reached) (by decide +kernel)) (fun _ _ _ _ _ => (vg_nm (pg_name (i := 6) sc_law_reached.nd rfl (by first | exact .inl rfl | exact .inr rfl)) ⟨_, rfl⟩ (by decide))) (fun _ _ _ _ _ => vts_nil) (fun _ _ _ _ _ => (ve_cmp op_eq oc_eqS (ve_var (pv 6)) (ve_var (pv 1)) (nomark _))))) va_nil)) (vg_nm (pg_name (i := 3) sc_law_reached.nd rfl (by first | exact .inl rfl | exact .inr rfl)) ⟨_, rfl⟩ (by decide))) (vss_kill [4, 5] (vss_cons (vs_for PassesOwn.never rfl (vi_rg1 (by rfl) T.m_range (va_cons (ve_var (pv 2)) va_nil)) (vg_nm (pg_name (i := 4) sc_law_reached.nd rfl (by first | exact .inl rfl | exact .inr rfl)) ⟨_, rfl⟩ (by decide)) (vss_cons (vs_asg (ve_ixs (ve_bor (pv 3)) (ve_neg ve_int)) (vg_nm (pg_name (i := 5) sc_law_reached.nd rfl (by first | exact .inl rfl | exact .inr rfl)) ⟨_, rfl⟩ (by decide))) (vss_cons (vs_expr (ve_mut PySem.F.slot_list_append PySem.F.type_list_append mt_append mk_app (pv 3) (va_cons (ve_fz (ve_lc (n := 7) (vs := [6]) rfl rfl rfl sc_law_reached.nd (vi_rg1 (by rfl) T.m_range (va_cons (ve_var (pv 0)) va_nil)) (blkOk_by (own := [("_law_spot", 6)]) (N := N_law_reached) (sc := defScope s_law_reached) (by decide +kernel)) (fun _ _ _ _ _ => (vg_nm (pg_name (i := 6) sc_law_reached.nd rfl (by first | exact .inl rfl | exact .inr rfl)) ⟨_, rfl⟩ (by decide))) (fun _ _ _ _ _ => vts_nil) (fun _ _ _ _ _ => (ve_or (ve_ixs (ve_var (pv 5)) (ve_mod (ve_sub (ve_add (ve_var (pv 6)) (ve_var (pv 0))) ve_int) (ve_var (pv 0)))) (ve_one (ve_ixs (ve_var (pv 5)) (ve_mod (ve_add (ve_var (pv 6)) ve_int) (ve_var (pv 0))))))))) va_nil))) (vss_kill [4, 5] vss_nil)))) (vss_cons (vs_ret (ve_mv (pv 3))) vss_nil))))) fun ss R hl hS => p_law_reached ss R hl hS
abbrev N_law_take : List Str := ["_law_box_here", "_law_many", "_law_one", "_law_digit"]
theorem sc_law_take : FnScope N_law_take ["_law_box_here", "_law_many"] (defScope s_law_take) := ⟨rfl, rfl, rfl, by decide +kernel, rfl, by decide +kernel, by decide +kernel⟩
theorem ok_law_take {fa : Addr} {fd : FuncData} (F : Fun K "_law_take" "_law_take" s_law_take fa fd) (T : Tx mg)  : FnOk Pg w K mg base CX0 1 fa fd ["_law_box_here", "_law_many"] (spO K 2 S_law_take) :=
  fn_ok (fx := [0]) (N := N_law_take) (k := 0) F sc_law_take rfl (fun cdv A outer s H E hr => show VSs _ _ _ tf_law_take from (vss_cons (vs_if (vt_cmp op_gt oc_gt (ve_ixs (ve_bor (pv 0)) ve_int) ve_int (nomark _)) (vss_cons (vs_asg (ve_mod (ve_ixs (ve_bor (pv 0)) ve_int) (ve_var (pv 1))) (vg_nm (pg_name (i := 3) sc_law_take.nd rfl (by first | exact .inl rfl | exact .inr rfl)) ⟨_, rfl⟩ (by decide))) (vss_cons (vs_subL (ve_div (ve_ixs (ve_bor (pv 0)) ve_int) (ve_var (pv 1))) (pv 0) ve_int) (vss_cons (vs_ret (ve_var (pv 3))) vss_nil))) vss_nil) (vss_cons (vs_subL (ve_add (ve_ixs (ve_bor (pv 0)) ve_int) ve_int) (pv 0) ve_int) (vss_cons (vs_asg (ve_mod (ve_mul (ve_add (ve_ixs (ve_bor (pv 0)) ve_int) (ve_mul ve_int (ve_ixs (ve_bor (pv 0)) ve_int))) ve_int) ve_int) (vg_nm (pg_name (i := 2) sc_law_take.nd rfl (by first | exact .inl rfl | exact .inr rfl)) ⟨_, rfl⟩ (by decide))) (vss_cons (vs_subL (ve_add (ve_mod (ve_add (ve_mul (ve_var (pv 2)) ve_int) ve_int) ve_int) ve_int) (pv 0) ve_int) (vss_cons (vs_ret (ve_mod (ve_div (ve_add (ve_mul (ve_var (pv 2)) ve_int) (ve_ixs (ve_bor (pv 0)) ve_int)) ve_int) (ve_var (pv 1)))) vss_nil)))))) fun ss R hl hS => p_law_take ss R hl hS
abbrev N_steps_between : List Str := ["long", "place", "other", "up"]
theorem sc_steps_between : FnScope N_steps_between ["long", "place", "other"] (defScope s_steps_between) := ⟨rfl, rfl, rfl, by decide +kernel, rfl, by decide +kernel, by decide +kernel⟩
theorem ok_steps_between {fa : Addr} {fd : FuncData} (F : Fun K "steps_between" "steps_between" s_steps_between fa fd) (T : Tx mg)  : FnOk Pg w K mg base CX0 1 fa fd ["long", "place", "other"] (spO K 3 S_steps_between) :=
  fn_ok (fx := []) (N := N_steps_between) (k := 0) F sc_steps_between rfl (fun cdv A outer s H E hr => show VSs _ _ _ tf_steps_between from (vss_cons (vs_asg (ve_mod (ve_sub (ve_var (pv 2)) (ve_var (pv 1))) (ve_var (pv 0))) (vg_nm (pg_name (i := 3) sc_steps_between.nd rfl (by first | exact .inl rfl | exact .inr rfl)) ⟨_, rfl⟩ (by decide))) (vss_cons (vs_ret (ve_tup (va_cons (ve_var (pv 3)) (va_cons (ve_sub (ve_var (pv 0)) (ve_var (pv 3))) va_nil)))) vss_nil))) fun ss R hl hS => p_steps_between ss R hl hS
abbrev N_can_come : List Str := ["long", "place", "other", "beats", "steps"]
theorem sc_can_come : FnScope N_can_come ["long", "place", "other", "beats"] (defScope s_can_come) := ⟨rfl, rfl, rfl, by decide +kernel, rfl, by decide +kernel, by decide +kernel⟩
theorem ok_can_come {fa : Addr} {fd : FuncData} (F : Fun K "can_come" "can_come" s_can_come fa fd) (T : Tx mg) (c_steps_between : Cal Pg w K mg base 1 3 "steps_between" S_steps_between []) : FnOk Pg w K mg base CX0 2 fa fd ["long", "place", "other", "beats"] (spO K 4 S_can_come) :=
  fn_ok (fx := []) (N := N_can_come) (k := 1) F sc_can_come rfl (fun cdv A outer s H E hr => show VSs _ _ _ tf_can_come from (vss_cons (vs_ret (ve_callB (cr_any rfl) oc_any (by rfl) T.m_any boot_any (va_cons (ve_lc (n := 5) (vs := [4]) rfl rfl rfl sc_can_come.nd (vi_tup (vcall c_steps_between hr (by decide) (by rfl) rfl (va_cons (ve_var (pv 0)) (va_cons (ve_var (pv 1)) (va_cons (ve_var (pv 2)) va_nil))))) (blkOk_by (own := [("steps", 4)]) (N := N_can_come) (sc := defScope s_can_come) (by decide +kernel)) (fun _ _ _ _ _ => (vg_nm (pg_name (i := 4) sc_can_come.nd rfl (by first | exact .inl rfl | exact .inr rfl)) ⟨_, rfl⟩ (by decide))) (fun _ _ _ _ _ => vts_nil) (fun _ _ _ _ _ => (ve_and (ve_cmp op_le oc_le (ve_var (pv 4)) (ve_var (pv 3)) (nomark _)) (ve_one (ve_cmp op_eq oc_eqS (ve_mod (ve_sub (ve_var (pv 3)) (ve_var (pv 4))) ve_int) ve_int (nomark _)))))) va_nil))) vss_nil)) fun ss R hl hS => p_can_come ss R hl hS
abbrev N_law : List Str := ["_law_script", "_law_k", "_law_box_here", "_law_long", "_law_rows", "_law_goals", "_law_place", "_law_great", "_law_many", "_law_row", "_law_goal", "_law_found", "_law_lap"]
theorem sc_law : FnScope N_law ["_law_script"] (defScope s_law) := ⟨rfl, rfl, rfl, by decide +kernel, rfl, by decide +kernel, by decide +kernel⟩
theorem ok_law {fa : Addr} {fd : FuncData} (F : Fun K "law" "law" s_law fa fd) (T : Tx mg) (c_law_box : Cal Pg w K mg base 1 2 "_law_box" S_law_box []) (c_law_reached : Cal Pg w K mg base 1 3 "_law_reached" S_law_reached []) (c_law_take : Cal Pg w K mg base 1 2 "_law_take" S_law_take []) (c_can_come : Cal Pg w K mg base 2 4 "can_come" S_can_come []) : FnOk Pg w K mg base CX0 3 fa fd ["_law_script"] (spO K 1 S_law) :=
  fn_ok (fx := []) (N := N_law) (k := 2) F sc_law rfl (fun cdv A outer s H E hr => show VSs _ _ _ tf_law from (vss_kill [1, 2, 3, 4, 5, 6, 7, 8, 9, 10, 11] (vss_cons (vs_for PassesOwn.never rfl (vi_rg1 (by rfl) T.m_range (va_cons (ve_callB (call_max2 rfl) oc_max2 (by rfl) T.m_max boot_max (va_cons ve_int (va_cons (ve_callB (call_min2 rfl) oc_min2 (by rfl) T.m_min boot_min (va_cons ve_int (va_cons (ve_callB call_len oc_len (by rfl) T.m_len boot_len (va_cons (ve_var (pv 0)) va_nil)) va_nil))) va_nil))) va_nil)) (vg_nm (pg_name (i := 1) sc_law.nd rfl (by first | exact .inl rfl | exact .inr rfl)) ⟨_, rfl⟩ (by decide)) (vss_cons (vs_asg (vcall c_law_box hr (by decide) (by rfl) rfl (va_cons (ve_var (pv 0)) (va_cons (ve_var (pv 1)) va_nil))) (vg_nm (pg_name (i := 2) sc_law.nd rfl (by first | exact .inl rfl | exact .inr rfl)) ⟨_, rfl⟩ (by decide))) (vss_cons (vs_asg (ve_add ve_int (vcall c_law_take hr (by decide) (by rfl) rfl (va_cons (ve_bor (pv 2)) (va_cons (ve_ixs (ve_lst (va_cons ve_int (va_cons ve_int (va_cons ve_int va_nil)))) (vcall c_law_take hr (by decide) (by rfl) rfl (va_cons (ve_bor (pv 2)) (va_cons ve_int va_nil)))) va_nil)))) (vg_nm (pg_name (i := 3) sc_law.nd rfl (by first | exact .inl rfl | exact .inr rfl)) ⟨_, rfl⟩ (by decide))) (vss_cons (vs_par (i := 6) (j := 7) rfl sc_law.nd rfl rfl (by decide) rfl rfl (va_cons (vcall c_law_take hr (by decide) (by rfl) rfl (va_cons (ve_bor (pv 2)) (va_cons (ve_var (pv 3)) va_nil))) (va_cons (ve_and (ve_cmp op_eq oc_eqS (vcall c_law_take hr (by decide) (by rfl) rfl (va_cons (ve_bor (pv 2)) (va_cons ve_int va_nil))) ve_int (nomark _)) (ve_one (ve_cmp op_eq oc_eqS (ve_var (pv 1)) ve_int (nomark _)))) va_nil)) rfl (by decide) (by decide)) (vss_cons (vs_asg (vcall c_law_reached hr (by decide) (by rfl) rfl (va_cons (ve_var (pv 3)) (va_cons (ve_var (pv 6)) (va_cons (ve_ixs (ve_lst (va_cons (vcall c_law_take hr (by decide) (by rfl) rfl (va_cons (ve_bor (pv 2)) (va_cons ve_int va_nil))) (va_cons ve_int va_nil))) (ve_callTy call_int1 oc_int (by rfl) T.m_int boot_int (va_cons (ve_var (pv 7)) va_nil))) va_nil)))) (vg_nm (pg_name (i := 4) sc_law.nd rfl (by first | exact .inl rfl | exact .inr rfl)) ⟨_, rfl⟩ (by decide))) (vss_cons (vs_asg (ve_catL (ve_lst (va_cons (ve_var (pv 6)) va_nil)) (ve_lc (n := 13) (vs := [12]) rfl rfl rfl sc_law.nd (vi_rg1 (by rfl) T.m_range (va_cons ve_int va_nil)) (blkOk_by (own := [("_law_lap", 12)]) (N := N_law) (sc := defScope s_law) (by decide +kernel)) (fun _ _ _ _ _ => (vg_nm (pg_name (i := 12) sc_law.nd rfl (by first | exact .inl rfl | exact .inr rfl)) ⟨_, rfl⟩ (by decide))) (fun _ _ _ _ _ => vts_nil) (fun _ _ _ _ _ => (vcall c_law_take hr (by decide) (by rfl) rfl (va_cons (ve_bor (pv 2)) (va_cons (ve_var (pv 3)) va_nil)))))) (vg_nm (pg_name (i := 5) sc_law.nd rfl (by first | exact .inl rfl | exact .inr rfl)) ⟨_, rfl⟩ (by decide))) (vss_kill [8, 9, 10, 11] (vss_cons (vs_for PassesOwn.never rfl (vi_enum (va_cons (ve_frz (pv 4)) va_nil) (by rfl) T.m_enumerate) (vg_tp rfl (vgs_cons (vg_nm (pg_name (i := 8) sc_law.nd rfl (by first | exact .inl rfl | exact .inr rfl)) ⟨_, rfl⟩ (by decide)) (vgs_cons (vg_nm (pg_name (i := 9) sc_law.nd rfl (by first | exact .inl rfl | exact .inr rfl)) ⟨_, rfl⟩ (by decide)) vgs_nil))) (vss_kill [10, 11] (vss_cons (vs_for PassesOwn.never rfl (vi_lst (ve_frz (pv 5))) (vg_nm (pg_name (i := 10) sc_law.nd rfl (by first | exact .inl rfl | exact .inr rfl)) ⟨_, rfl⟩ (by decide)) (vss_cons (vs_asg (vcall c_can_come hr (by decide) (by rfl) rfl (va_cons (ve_var (pv 3)) (va_cons (ve_var (pv 6)) (va_cons (ve_var (pv 10)) (va_cons (ve_var (pv 8)) va_nil))))) (vg_nm (pg_name (i := 11) sc_law.nd rfl (by first | exact .inl rfl | exact .inr rfl)) ⟨_, rfl⟩ (by decide))) (vss_cons (vs_if (vt_w (vw_or (vt_not (vt_val (ve_isi (c := .bl) (by rfl) T.m_isinstance (by rfl) T.m_bool boot_bool (ve_var (pv 11))))) (vw_or (vt_cmp op_ne oc_neS (ve_var (pv 11)) (ve_ixs (ve_var (pv 9)) (ve_var (pv 10))) (nomark _)) (vw_or1 (vt_cmp op_ne oc_neS (vcall c_can_come hr (by decide) (by rfl) rfl (va_cons (ve_var (pv 3)) (va_cons (ve_var (pv 10)) (va_cons (ve_var (pv 6)) (va_cons (ve_var (pv 8)) va_nil))))) (ve_var (pv 11)) (nomark _)))))) (vss_cons (vs_ret ve_bl) vss_nil) vss_nil) (vss_kill [10, 11] vss_nil)))) (vss_kill [8, 9, 10, 11] vss_nil)))) (vss_kill [1, 2, 3, 4, 5, 6, 7, 8, 9, 10, 11] vss_nil))))))))) (vss_cons (vs_ret ve_bl) vss_nil)))) fun ss R hl hS => p_law ss R hl hS
end
theorem all_mk {l : PySem.W.OpenLaw} {w : World} {K : PySem.W.Frag} {h : Heap} {mg : Str → Option Value} {fa f0 f1 f2 f3 f4 f5 : Addr} (X : K.In h) (G : h.Ns mainGlobals mg) (hfa : mg "law" = some (.ref fa))
    {od0 an0 od1 an1 od2 an2 od3 an3 od4 an4 od5 an5 : Option Addr} {sl0 sl1 sl2 sl3 sl4 sl5 : Array (Option Value)} {oc0 kV0 dc0 pm0 cd0 ct0 oc1 kV1 dc1 pm1 cd1 ct1 oc2 kV2 dc2 pm2 cd2 ct2 oc3 kV3 dc3 pm3 cd3 ct3 oc4 kV4 dc4 pm4 cd4 ct4 oc5 kV5 dc5 pm5 cd5 ct5 : Value}
    (a0 : PySem.W.nsIn K mainGlobals "_law_box" = some (some (.ref f0))) (l0 : K.lookup f0 = some ⟨oc0, od0, .func (PySem.W.fnOf "_law_box" "_law_box" (defArgs s_law_box) (defBody s_law_box) (defScope s_law_box) .none kV0 dc0 pm0 an0 cd0 ct0), sl0⟩) (c0 : PySem.W.codeIn K cd0 "_law_box" = true) (k0 : PySem.W.keepIn K (.ref f0) = true)
    (a1 : PySem.W.nsIn K mainGlobals "_law_reached" = some (some (.ref f1))) (l1 : K.lookup f1 = some ⟨oc1, od1, .func (PySem.W.fnOf "_law_reached" "_law_reached" (defArgs s_law_reached) (defBody s_law_reached) (defScope s_law_reached) .none kV1 dc1 pm1 an1 cd1 ct1), sl1⟩) (c1 : PySem.W.codeIn K cd1 "_law_reached" = true) (k1 : PySem.W.keepIn K (.ref f1) = true)
    (a2 : PySem.W.nsIn K mainGlobals "_law_take" = some (some (.ref f2))) (l2 : K.lookup f2 = some ⟨oc2, od2, .func (PySem.W.fnOf "_law_take" "_law_take" (defArgs s_law_take) (defBody s_law_take) (defScope s_law_take) .none kV2 dc2 pm2 an2 cd2 ct2), sl2⟩) (c2 : PySem.W.codeIn K cd2 "_law_take" = true) (k2 : PySem.W.keepIn K (.ref f2) = true)
    (a3 : PySem.W.nsIn K mainGlobals "steps_between" = some (some (.ref f3))) (l3 : K.lookup f3 = some ⟨oc3, od3, .func (PySem.W.fnOf "steps_between" "steps_between" (defArgs s_steps_between) (defBody s_steps_between) (defScope s_steps_between) .none kV3 dc3 pm3 an3 cd3 ct3), sl3⟩) (c3 : PySem.W.codeIn K cd3 "steps_between" = true) (k3 : PySem.W.keepIn K (.ref f3) = true)
    (a4 : PySem.W.nsIn K mainGlobals "can_come" = some (some (.ref f4))) (l4 : K.lookup f4 = some ⟨oc4, od4, .func (PySem.W.fnOf "can_come" "can_come" (defArgs s_can_come) (defBody s_can_come) (defScope s_can_come) .none kV4 dc4 pm4 an4 cd4 ct4), sl4⟩) (c4 : PySem.W.codeIn K cd4 "can_come" = true) (k4 : PySem.W.keepIn K (.ref f4) = true)
    (a5 : PySem.W.nsIn K mainGlobals "law" = some (some (.ref f5))) (l5 : K.lookup f5 = some ⟨oc5, od5, .func (PySem.W.fnOf "law" "law" (defArgs s_law) (defBody s_law) (defScope s_law) .none kV5 dc5 pm5 an5 cd5 ct5), sl5⟩) (c5 : PySem.W.codeIn K cd5 "law" = true) (k5 : PySem.W.keepIn K (.ref f5) = true)
    (z_any : PySem.W.nsIn K mainGlobals "any" = some none)
    (z_bool : PySem.W.nsIn K mainGlobals "bool" = some none)
    (z_enumerate : PySem.W.nsIn K mainGlobals "enumerate" = some none)
    (z_int : PySem.W.nsIn K mainGlobals "int" = some none)
    (z_isinstance : PySem.W.nsIn K mainGlobals "isinstance" = some none)
    (z_len : PySem.W.nsIn K mainGlobals "len" = some none)
    (z_max : PySem.W.nsIn K mainGlobals "max" = some none)
    (z_min : PySem.W.nsIn K mainGlobals "min" = some none)
    (z_range : PySem.W.nsIn K mainGlobals "range" = some none)
    : ∃ fd : FuncData, (∀ (s : Shared) (v : Value), BindsTo s fd ⟨[v], []⟩ [("_law_script", v)]) ∧ ∀ base : Heap, K.In base → base.Ns mainGlobals mg → FnOk l.prog w K mg base CX0 3 fa fd ["_law_script"] (spO K 1 S_law) := by
  have e := hfa.symm.trans (PySem.W.mg_of X G a5)
  cases e
  have T : Tx mg := ⟨PySem.W.mg_none_of X G z_any, PySem.W.mg_none_of X G z_bool, PySem.W.mg_none_of X G z_enumerate, PySem.W.mg_none_of X G z_int, PySem.W.mg_none_of X G z_isinstance, PySem.W.mg_none_of X G z_len, PySem.W.mg_none_of X G z_max, PySem.W.mg_none_of X G z_min, PySem.W.mg_none_of X G z_range⟩
  have F0 := fun_mk (st := s_law_box) l0 c0 k0
  have b0 := F0.binds (ps := ["_law_script", "_law_k"]) fun _ _ _ _ _ _ us hl => match us, hl with | [_, _], _ => rfl
  have F1 := fun_mk (st := s_law_reached) l1 c1 k1
  have b1 := F1.binds (ps := ["_law_long", "_law_place", "_law_many"]) fun _ _ _ _ _ _ us hl => match us, hl with | [_, _, _], _ => rfl
  have F2 := fun_mk (st := s_law_take) l2 c2 k2
  have b2 := F2.binds (ps := ["_law_box_here", "_law_many"]) fun _ _ _ _ _ _ us hl => match us, hl with | [_, _], _ => rfl
  have F3 := fun_mk (st := s_steps_between) l3 c3 k3
  have b3 := F3.binds (ps := ["long", "place", "other"]) fun _ _ _ _ _ _ us hl => match us, hl with | [_, _, _], _ => rfl
  have F4 := fun_mk (st := s_can_come) l4 c4 k4
  have b4 := F4.binds (ps := ["long", "place", "other", "beats"]) fun _ _ _ _ _ _ us hl => match us, hl with | [_, _, _, _], _ => rfl
  have F5 := fun_mk (st := s_law) l5 c5 k5
  refine ⟨PySem.W.fnOf "law" "law" (defArgs s_law) (defBody s_law) (defScope s_law) .none kV5 dc5 pm5 an5 cd5 ct5, fun s v => .of_eq rfl, fun base _ _ => ?_⟩
  have C0 := FnOk.cal (Pg := l.prog) (w := w) (base := base) (ok_law_box F0 T ) (PySem.W.mg_of X G a0) k0 b0
  have C1 := FnOk.cal (Pg := l.prog) (w := w) (base := base) (ok_law_reached F1 T ) (PySem.W.mg_of X G a1) k1 b1
  have C2 := FnOk.cal (Pg := l.prog) (w := w) (base := base) (ok_law_take F2 T ) (PySem.W.mg_of X G a2) k2 b2
  have C3 := FnOk.cal (Pg := l.prog) (w := w) (base := base) (ok_steps_between F3 T ) (PySem.W.mg_of X G a3) k3 b3
  have C4 := FnOk.cal (Pg := l.prog) (w := w) (base := base) (ok_can_come F4 T C3) (PySem.W.mg_of X G a4) k4 b4
  exact ok_law F5 T C0 C1 C2 C4
end PW

open PySem PySem.W PyProof.Rows in
set_option maxRecDepth 100000 in
set_option maxHeartbeats 0 in
theorem PySem.Challenge.cw_turnround_k38_comes_in_just_so_many_holds : PySem.Challenge.rw_turnround_k38_comes_in_just_so_many.Holds := by
  w_on; o_law; k_head; (case hw => w_witness2)
  k_fill
  refine PW.law_walk (l := PySem.Challenge.rw_turnround_k38_comes_in_just_so_many) (k := 3) (x := "_law_script") rfl rfl ⟨rfl, by decide, by decide⟩ (fun w h Y => PySem.W.kIn_of Y) ?F
  case F =>
    intro w mg fa h KX G hmg
    refine' PW.all_mk KX G hmg ?a0 ?l0 ?c0 ?k0 ?a1 ?l1 ?c1 ?k1 ?a2 ?l2 ?c2 ?k2 ?a3 ?l3 ?c3 ?k3 ?a4 ?l4 ?c4 ?k4 ?a5 ?l5 ?c5 ?k5 ?z_any ?z_bool ?z_enumerate ?z_int ?z_isinstance ?z_len ?z_max ?z_min ?z_range
    (case a0 => k_is)
    (case l0 => k_is)
    (case c0 => k_is)
    (case k0 => k_is)
    (case a1 => k_is)
    (case l1 => k_is)
    (case c1 => k_is)
    (case k1 => k_is)
    (case a2 => k_is)
    (case l2 => k_is)
    (case c2 => k_is)
    (case k2 => k_is)
    (case a3 => k_is)
    (case l3 => k_is)
    (case c3 => k_is)
    (case k3 => k_is)
    (case a4 => k_is)
    (case l4 => k_is)
    (case c4 => k_is)
    (case k4 => k_is)
    (case a5 => k_is)
    (case l5 => k_is)
    (case c5 => k_is)
    (case k5 => k_is)
    (case z_any => k_is)
    (case z_bool => k_is)
    (case z_enumerate => k_is)
    (case z_int => k_is)
    (case z_isinstance => k_is)
    (case z_len => k_is)
    (case z_max => k_is)
    (case z_min => k_is)
    (case z_range => k_is)
#print axioms PySem.Challenge.cw_turnround_k38_comes_in_just_so_many_holds
end DVk38
