import PyProof.Rows.All
import Wide.All
import OpenK.AllK
import Wide.FinOn
import HandS.ForMost
import HandS.Exc
import HandS.IsInst
import HandS.TupAny
import HandS.Deep
import HandS.Zip
import HandS.Rev
import HandS.SetFor
import HandS.Style
import HandS.Text
import HandS.Small
import HandS.Defaults
import HandS.MakeKwOnly
import HandS.Wide
import HandS.Conv
import HandS.RevRange
import HandS.SortRule
import HandS.SortOrd
import HandS.ExcInit
import HandS.ExcField
import HandS.ExcOwn
import HandS.TryOnly
import HandS.ExcIs
import HandS.More
import HandS.TupLe
import HandS.MakeKw
import HandS.Comp
import HandS.Flow
import KE.KUnpackStar
import KE.GoesMore
import KE.GoesEnum
import KE.KExcIs
import KE.SortData
import PySem.Challenge.RW_turnround_k19_histories_done
set_option Elab.async false
set_option linter.all false
section PwA
set_option maxRecDepth 100000
/-! PwA: trees of values with owners; what they stand for in the abstract heap; steps of heaps. -/
namespace PW
open PySem PySem.Spec L2
open PyProof.Rows hiding St

/-- data: never changed again (a list among it: one that nobody will change) -/
abbrev D := PyData

/-- an exception of the program: its class's name, its fields -/
structure Exn where
  cls : Str
  fs : List (Str × D)
/-- trees: data, or owned containers; ex: a caught exception, and where it and its dict stand -/
inductive T where
  | d (x : D) | ls (xs : List D) | lt (xs : List T) | dk (kvs : List (Key × T)) | tp (xs : List T) | ex (a dd : Addr) (x : Exn) | ob (cn : Str) (fs : List (Str × T)) | pt (xs : List D)

/-- a list that nobody will change: locked, or written -/
def SqZ (K : PySem.W.Frag) (H : Hp) (a : Addr) (xs : List V) : Prop :=
  (∃ o, H a = some (.frz o (.lst xs))) ∨
    ∃ (o : Obj) (its : Array Value) (n : Nat), K.lookup a = some o ∧ o.cls = .type "list" ∧ o.dict = none ∧ o.data = .seq its n ∧ its.size ≤ sizeLine ∧ Vals xs its.toList
theorem SqZ.l {K : PySem.W.Frag} {H : Hp} {a : Addr} {xs : List V} (h : SqZ K H a xs) : SqL K H a xs := by
  rcases h with ⟨o, h⟩ | h
  · exact .inl (.inr ⟨o, h⟩)
  · exact .inr h

mutual
def RepD (K : PySem.W.Frag) (H : Hp) : D → V → Prop
  | .none, v => v = .non
  | .bool b, v => v = .bl b
  | .int i, v => v = .int i
  | .str s, v => v = .str s
  | .tuple xs, v => ∃ a vs, v = .ref a ∧ SqT K H a vs ∧ RepDs K H xs vs
  | .list xs, v => ∃ a vs, v = .ref a ∧ SqZ K H a vs ∧ RepDs K H xs vs
  | .dict _, _ => False
def RepDs (K : PySem.W.Frag) (H : Hp) : List D → List V → Prop
  | [], vs => vs = []
  | x :: xs, vs => ∃ v r, vs = v :: r ∧ RepD K H x v ∧ RepDs K H xs r
end
def RepFs (K : PySem.W.Frag) (H : Hp) : List (Str × D) → List (Str × V) → Prop
  | [], vs => vs = []
  | p :: ps, vs => ∃ v r, vs = (p.1, v) :: r ∧ RepD K H p.2 v ∧ RepFs K H ps r
mutual
def RepT (K : PySem.W.Frag) (H : Hp) : T → V → List Addr → Prop
  | .d x, v, ws => RepD K H x v ∧ ws = []
  | .ls xs, v, ws => ∃ a vs, v = .ref a ∧ H a = some (.lst vs) ∧ RepDs K H xs vs ∧ ws = [a]
  | .lt ts, v, ws => ∃ a vs w, v = .ref a ∧ H a = some (.lst vs) ∧ RepTs K H ts vs w ∧ ws = a :: w
  | .dk kts, v, ws => ∃ a kvs w, v = .ref a ∧ H a = some (.dK kvs) ∧ RepKs K H kts kvs w ∧ ws = a :: w
  | .tp ts, v, ws => ∃ a vs, v = .ref a ∧ SqT K H a vs ∧ RepTs K H ts vs ws
  | .ex a dd x, v, ws => v = .ref a ∧ (∃ fs, H dd = some (.xd fs) ∧ RepFs K H x.fs fs) ∧ ws = []
  | .ob cn fs, v, ws => ∃ a C dx vs w, v = .ref a ∧ PySem.W.nsIn K mainGlobals cn = some (some (.ref C)) ∧ H a = some (.ins C dx vs) ∧ H dx = some (.own a) ∧ RepFt K H fs vs w ∧ ws = a :: dx :: w
  | .pt xs, v, ws => ∃ a vs its n, v = .ref a ∧ H a = some (.frz { cls := .type "tuple", data := .seq its n } (.tup vs)) ∧ RepDs K H xs vs ∧ ws = []
def RepTs (K : PySem.W.Frag) (H : Hp) : List T → List V → List Addr → Prop
  | [], vs, ws => vs = [] ∧ ws = []
  | t :: ts, vs, ws => ∃ v r w1 w2, vs = v :: r ∧ RepT K H t v w1 ∧ RepTs K H ts r w2 ∧ ws = w1 ++ w2
def RepKs (K : PySem.W.Frag) (H : Hp) : List (Key × T) → List (Key × V) → List Addr → Prop
  | [], vs, ws => vs = [] ∧ ws = []
  | (k, t) :: ts, vs, ws => ∃ v r w1 w2, vs = (k, v) :: r ∧ RepT K H t v w1 ∧ RepKs K H ts r w2 ∧ ws = w1 ++ w2
def RepFt (K : PySem.W.Frag) (H : Hp) : List (Str × T) → List (Str × V) → List Addr → Prop
  | [], vs, ws => vs = [] ∧ ws = []
  | (k, t) :: ts, vs, ws => ∃ v r w1 w2, vs = (k, v) :: r ∧ RepT K H t v w1 ∧ RepFt K H ts r w2 ∧ ws = w1 ++ w2
end

/-- what may be changed and is owned -/
def MutO (H : Hp) (b : Addr) : Prop := (∃ xs, H b = some (.lst xs)) ∨ (∃ kvs, H b = some (.dK kvs)) ∨ (∃ C dx vs, H b = some (.ins C dx vs)) ∨ (∃ a, H b = some (.own a))
theorem MutO.there {H : Hp} {b : Addr} (m : MutO H b) : ∃ o, H b = some o := by
  rcases m with ⟨xs, h⟩ | ⟨xs, h⟩ | ⟨C, dx, vs, h⟩ | ⟨a, h⟩ <;> exact ⟨_, h⟩
theorem MutO.ntup {H : Hp} {b : Addr} (m : MutO H b) {xs : List V} : H b ≠ some (.tup xs) := by
  intro h; rcases m with ⟨ys, e⟩ | ⟨ys, e⟩ | ⟨C, dx, vs, e⟩ | ⟨a, e⟩ <;> (rw [h] at e; cases e)
theorem MutO.nfrz {H : Hp} {b : Addr} (m : MutO H b) {o : Obj} {u : HO} : H b ≠ some (.frz o u) := by
  intro h; rcases m with ⟨ys, e⟩ | ⟨ys, e⟩ | ⟨C, dx, vs, e⟩ | ⟨a, e⟩ <;> (rw [h] at e; cases e)

/-- from H to H', where W was owned ahead and W' is owned behind -/
structure Step (W W' : List Addr) (H H' : Hp) : Prop where
  keep : ∀ b o, H b = some o → b ∉ W → H' b = some o
  new : ∀ b ∈ W', b ∈ W ∨ H b = none
theorem Step.refl (W : List Addr) (H : Hp) : Step W W H H := ⟨fun _ _ h _ => h, fun _ h => .inl h⟩
theorem Step.trans {W W1 W2 ws : List Addr} {H H1 H2 : Hp} (a : Step W (ws ++ W1) H H1) (b : Step W1 W2 H1 H2) (nd : (ws ++ W1).Nodup) : Step W (ws ++ W2) H H2 where
  keep := fun c o h hc => by
    have h1 := a.keep c o h hc
    refine b.keep c o h1 fun hc1 => ?_
    rcases a.new c (List.mem_append_right _ hc1) with z | z
    · exact hc z
    · rw [h] at z; cases z
  new := fun c hc => by
    rcases List.mem_append.mp hc with z | z
    · exact a.new c (List.mem_append_left _ z)
    · rcases b.new c z with z | z
      · exact a.new c (List.mem_append_right _ z)
      · by_cases hw : c ∈ W
        · exact .inl hw
        · refine .inr ?_
          cases q : H c with
          | none => rfl
          | some o => rw [a.keep c o q hw] at z; cases z
/-- what is kept under a step -/
structure Kept (W : List Addr) (H H' : Hp) : Prop where
  keep : ∀ b o, H b = some o → b ∉ W → H' b = some o
  mu : ∀ b ∈ W, MutO H b
theorem Kept.same {H H' : Hp} (h : Same H H') : Kept [] H H' := ⟨fun b o e _ => h b o e, fun _ h => by simp at h⟩
section
variable {K : PySem.W.Frag} {W : List Addr} {H H' : Hp}
theorem Kept.sqT (k : Kept W H H') {a : Addr} {xs : List V} (h : SqT K H a xs) : SqT K H' a xs := by
  rcases h with (h | ⟨o, h⟩) | h
  · exact .inl (.inl (k.keep _ _ h fun z => (k.mu a z).ntup h))
  · exact .inl (.inr ⟨o, k.keep _ _ h fun z => (k.mu a z).nfrz h⟩)
  · exact .inr h
theorem Kept.sqZ (k : Kept W H H') {a : Addr} {xs : List V} (h : SqZ K H a xs) : SqZ K H' a xs := by
  rcases h with ⟨o, h⟩ | h
  · exact .inl ⟨o, k.keep _ _ h fun z => (k.mu a z).nfrz h⟩
  · exact .inr h
mutual
theorem RepD.keep (k : Kept W H H') : ∀ {x : D} {v : V}, RepD K H x v → RepD K H' x v
  | .none, _, h => h
  | .bool _, _, h => h
  | .int _, _, h => h
  | .str _, _, h => h
  | .tuple _, _, ⟨a, vs, e, s, r⟩ => ⟨a, vs, e, k.sqT s, RepDs.keep k r⟩
  | .list _, _, ⟨a, vs, e, s, r⟩ => ⟨a, vs, e, k.sqZ s, RepDs.keep k r⟩
  | .dict _, _, h => h
theorem RepDs.keep (k : Kept W H H') : ∀ {xs : List D} {vs : List V}, RepDs K H xs vs → RepDs K H' xs vs
  | [], _, h => h
  | _ :: _, _, ⟨v, r, e, h, t⟩ => ⟨v, r, e, RepD.keep k h, RepDs.keep k t⟩
end
theorem RepFs.keep (k : Kept W H H') : ∀ {xs : List (Str × D)} {vs : List (Str × V)}, RepFs K H xs vs → RepFs K H' xs vs
  | [], _, h => h
  | _ :: _, _, ⟨v, r, e, h, t⟩ => ⟨v, r, e, RepD.keep k h, RepFs.keep k t⟩
theorem MutO.nxd {H : Hp} {b : Addr} (m : MutO H b) {fs : List (Str × V)} : H b ≠ some (.xd fs) := by
  intro h; rcases m with ⟨ys, e⟩ | ⟨ys, e⟩ | ⟨C, dx, vs, e⟩ | ⟨a, e⟩ <;> (rw [h] at e; cases e)
mutual
theorem RepT.keep (k : Kept W H H') : ∀ {t : T} {v : V} {ws : List Addr}, RepT K H t v ws → (∀ b ∈ ws, b ∉ W) → RepT K H' t v ws
  | .d _, _, _, ⟨h, e⟩, _ => ⟨h.keep k, e⟩
  | .ls _, _, _, ⟨a, vs, e, h, r, ew⟩, hw => ⟨a, vs, e, k.keep _ _ h (hw a (by rw [ew]; simp)), r.keep k, ew⟩
  | .lt _, _, _, ⟨a, vs, w, e, h, r, ew⟩, hw => ⟨a, vs, w, e, k.keep _ _ h (hw a (by rw [ew]; simp)), RepTs.keep k r fun b hb => hw b (by rw [ew]; exact List.mem_cons_of_mem _ hb), ew⟩
  | .dk _, _, _, ⟨a, vs, w, e, h, r, ew⟩, hw => ⟨a, vs, w, e, k.keep _ _ h (hw a (by rw [ew]; simp)), RepKs.keep k r fun b hb => hw b (by rw [ew]; exact List.mem_cons_of_mem _ hb), ew⟩
  | .tp _, _, _, ⟨a, vs, e, s, r⟩, hw => ⟨a, vs, e, k.sqT s, RepTs.keep k r hw⟩
  | .ex _ dd _, _, _, ⟨e, ⟨fs, h, r⟩, ew⟩, _ => ⟨e, ⟨fs, k.keep _ _ h fun z => (k.mu dd z).nxd h, r.keep k⟩, ew⟩
  | .ob _ _, _, _, ⟨a, C, dx, vs, w, e, hc, h, hd, r, ew⟩, hw => ⟨a, C, dx, vs, w, e, hc, k.keep _ _ h (hw a (by rw [ew]; simp)), k.keep _ _ hd (hw dx (by rw [ew]; simp)), RepFt.keep k r fun b hb => hw b (by rw [ew]; exact List.mem_cons_of_mem _ (List.mem_cons_of_mem _ hb)), ew⟩
  | .pt _, _, _, ⟨a, vs, its, n, e, h, r, ew⟩, _ => ⟨a, vs, its, n, e, k.keep _ _ h fun z => (k.mu a z).nfrz h, r.keep k, ew⟩
theorem RepTs.keep (k : Kept W H H') : ∀ {ts : List T} {vs : List V} {ws : List Addr}, RepTs K H ts vs ws → (∀ b ∈ ws, b ∉ W) → RepTs K H' ts vs ws
  | [], _, _, h, _ => h
  | _ :: _, _, _, ⟨v, r, w1, w2, e, h, t, ew⟩, hw => ⟨v, r, w1, w2, e, RepT.keep k h fun b hb => hw b (by rw [ew]; exact List.mem_append_left _ hb), RepTs.keep k t fun b hb => hw b (by rw [ew]; exact List.mem_append_right _ hb), ew⟩
theorem RepKs.keep (k : Kept W H H') : ∀ {ts : List (Key × T)} {vs : List (Key × V)} {ws : List Addr}, RepKs K H ts vs ws → (∀ b ∈ ws, b ∉ W) → RepKs K H' ts vs ws
  | [], _, _, h, _ => h
  | (_, _) :: _, _, _, ⟨v, r, w1, w2, e, h, t, ew⟩, hw => ⟨v, r, w1, w2, e, RepT.keep k h fun b hb => hw b (by rw [ew]; exact List.mem_append_left _ hb), RepKs.keep k t fun b hb => hw b (by rw [ew]; exact List.mem_append_right _ hb), ew⟩
theorem RepFt.keep (k : Kept W H H') : ∀ {ts : List (Str × T)} {vs : List (Str × V)} {ws : List Addr}, RepFt K H ts vs ws → (∀ b ∈ ws, b ∉ W) → RepFt K H' ts vs ws
  | [], _, _, h, _ => h
  | (_, _) :: _, _, _, ⟨v, r, w1, w2, e, h, t, ew⟩, hw => ⟨v, r, w1, w2, e, RepT.keep k h fun b hb => hw b (by rw [ew]; exact List.mem_append_left _ hb), RepFt.keep k t fun b hb => hw b (by rw [ew]; exact List.mem_append_right _ hb), ew⟩
end
mutual
theorem RepT.mut : ∀ {t : T} {v : V} {ws : List Addr}, RepT K H t v ws → ∀ b ∈ ws, MutO H b
  | .d _, _, _, ⟨_, e⟩, b, hb => by rw [e] at hb; simp at hb
  | .ls _, _, _, ⟨a, vs, e, h, r, ew⟩, b, hb => by
    rw [ew] at hb; have : b = a := by simpa using hb
    subst this; exact .inl ⟨_, h⟩
  | .lt _, _, _, ⟨a, vs, w, e, h, r, ew⟩, b, hb => by
    rw [ew] at hb
    rcases List.mem_cons.mp hb with z | z
    · subst z; exact .inl ⟨_, h⟩
    · exact RepTs.mut r b z
  | .dk _, _, _, ⟨a, vs, w, e, h, r, ew⟩, b, hb => by
    rw [ew] at hb
    rcases List.mem_cons.mp hb with z | z
    · subst z; exact .inr (.inl ⟨_, h⟩)
    · exact RepKs.mut r b z
  | .tp _, _, _, ⟨a, vs, e, s, r⟩, b, hb => RepTs.mut r b hb
  | .ex _ _ _, _, _, ⟨_, _, e⟩, b, hb => by rw [e] at hb; simp at hb
  | .pt _, _, _, ⟨_, _, _, _, _, _, _, e⟩, b, hb => by rw [e] at hb; simp at hb
  | .ob _ _, _, _, ⟨a, C, dx, vs, w, e, _, h, hd, r, ew⟩, b, hb => by
    rw [ew] at hb
    rcases List.mem_cons.mp hb with z | z
    · subst z; exact .inr (.inr (.inl ⟨_, _, _, h⟩))
    · rcases List.mem_cons.mp z with z | z
      · subst z; exact .inr (.inr (.inr ⟨_, hd⟩))
      · exact RepFt.mut r b z
theorem RepTs.mut : ∀ {ts : List T} {vs : List V} {ws : List Addr}, RepTs K H ts vs ws → ∀ b ∈ ws, MutO H b
  | [], _, _, ⟨_, e⟩, b, hb => by rw [e] at hb; simp at hb
  | _ :: _, _, _, ⟨v, r, w1, w2, e, h, t, ew⟩, b, hb => by
    rw [ew] at hb
    exact (List.mem_append.mp hb).elim (RepT.mut h b) (RepTs.mut t b)
theorem RepKs.mut : ∀ {ts : List (Key × T)} {vs : List (Key × V)} {ws : List Addr}, RepKs K H ts vs ws → ∀ b ∈ ws, MutO H b
  | [], _, _, ⟨_, e⟩, b, hb => by rw [e] at hb; simp at hb
  | (_, _) :: _, _, _, ⟨v, r, w1, w2, e, h, t, ew⟩, b, hb => by
    rw [ew] at hb
    exact (List.mem_append.mp hb).elim (RepT.mut h b) (RepKs.mut t b)
theorem RepFt.mut : ∀ {ts : List (Str × T)} {vs : List (Str × V)} {ws : List Addr}, RepFt K H ts vs ws → ∀ b ∈ ws, MutO H b
  | [], _, _, ⟨_, e⟩, b, hb => by rw [e] at hb; simp at hb
  | (_, _) :: _, _, _, ⟨v, r, w1, w2, e, h, t, ew⟩, b, hb => by
    rw [ew] at hb
    exact (List.mem_append.mp hb).elim (RepT.mut h b) (RepFt.mut t b)
end

theorem RepDs.length : ∀ {xs : List D} {vs : List V}, RepDs K H xs vs → vs.length = xs.length
  | [], _, h => by have h : _ = [] := h; rw [h]; rfl
  | _ :: _, _, ⟨v, r, e, h, t⟩ => by rw [e, List.length_cons, List.length_cons, RepDs.length t]
theorem RepDs.get : ∀ {xs : List D} {vs : List V} {i : Nat} {x : D}, RepDs K H xs vs → xs[i]? = some x → ∃ v, vs[i]? = some v ∧ RepD K H x v
  | [], _, _, _, _, e => by simp at e
  | y :: ys, _, 0, x, ⟨v, r, e, h, t⟩, q => by
    have q : y = x := by simpa using q
    subst q; exact ⟨v, by rw [e]; rfl, h⟩
  | y :: ys, _, i + 1, x, ⟨v, r, e, h, t⟩, q => by
    obtain ⟨u, hu, ru⟩ := RepDs.get (i := i) (x := x) t (by simpa using q)
    exact ⟨u, by rw [e]; simpa using hu, ru⟩
theorem RepDs.append : ∀ {xs ys : List D} {vs ws : List V}, RepDs K H xs vs → RepDs K H ys ws → RepDs K H (xs ++ ys) (vs ++ ws)
  | [], _, _, _, h, g => by have h : _ = [] := h; rw [h]; exact g
  | _ :: _, _, _, _, ⟨v, r, e, h, t⟩, g => by rw [e]; exact ⟨v, _, rfl, h, RepDs.append t g⟩
theorem RepDs.one {x : D} {v : V} (h : RepD K H x v) : RepDs K H [x] [v] := ⟨v, [], rfl, h, rfl⟩
theorem RepDs.take : ∀ {xs : List D} {vs : List V} (n : Nat), RepDs K H xs vs → RepDs K H (xs.take n) (vs.take n)
  | _, _, 0, _ => by simp [RepDs]
  | [], _, n + 1, h => by have h : _ = [] := h; rw [h]; simp [RepDs]
  | _ :: _, _, n + 1, ⟨v, r, e, h, t⟩ => by rw [e]; exact ⟨v, _, rfl, h, RepDs.take n t⟩
theorem RepDs.drop : ∀ {xs : List D} {vs : List V} (n : Nat), RepDs K H xs vs → RepDs K H (xs.drop n) (vs.drop n)
  | _, _, 0, h => by simpa using h
  | [], _, n + 1, h => by have h : _ = [] := h; rw [h]; simp [RepDs]
  | _ :: _, _, n + 1, ⟨v, r, e, h, t⟩ => by rw [e]; exact RepDs.drop n t
theorem RepDs.set : ∀ {xs : List D} {vs : List V} {x : D} {v : V} (n : Nat), RepDs K H xs vs → RepD K H x v → RepDs K H (xs.set n x) (vs.set n v)
  | [], _, _, _, n, h, _ => by have h : _ = [] := h; rw [h]; simp [RepDs]
  | _ :: _, _, _, _, 0, ⟨v, r, e, h, t⟩, g => by rw [e]; exact ⟨_, _, rfl, g, t⟩
  | _ :: _, _, _, _, n + 1, ⟨v, r, e, h, t⟩, g => by rw [e]; exact ⟨_, _, rfl, h, RepDs.set n t g⟩
theorem RepDs.reverse : ∀ {xs : List D} {vs : List V}, RepDs K H xs vs → RepDs K H xs.reverse vs.reverse
  | [], _, h => by have h : _ = [] := h; rw [h]; simp [RepDs]
  | _ :: _, _, ⟨v, r, e, h, t⟩ => by rw [e, List.reverse_cons, List.reverse_cons]; exact RepDs.append (RepDs.reverse t) (RepDs.one h)
end

/-! ### as the layer's data -/
mutual
theorem RepD.dp {K : PySem.W.Frag} {H : Hp} : ∀ {x : D} {v : V}, RepD K H x v → Dp K H v x
  | .none, _, h => by have h : _ = V.non := h; rw [h]; exact .non
  | .bool _, _, h => by have h : _ = V.bl _ := h; rw [h]; exact .bl _
  | .int _, _, h => by have h : _ = V.int _ := h; rw [h]; exact .int _
  | .str _, _, h => by have h : _ = V.str _ := h; rw [h]; exact .str _
  | .tuple _, _, ⟨a, vs, e, s, r⟩ => by rw [e]; exact .tup s (RepDs.dp r)
  | .list _, _, ⟨a, vs, e, s, r⟩ => by rw [e]; exact .lst s.l (RepDs.dp r)
  | .dict _, _, h => h.elim
theorem RepDs.dp {K : PySem.W.Frag} {H : Hp} : ∀ {xs : List D} {vs : List V}, RepDs K H xs vs → DpAll K H vs xs
  | [], _, h => by have h : _ = [] := h; rw [h]; exact .nil
  | _ :: _, _, ⟨v, r, e, h, t⟩ => by rw [e]; exact .cons (RepD.dp h) (RepDs.dp t)
end

/-! ### slots -/
inductive Slot where
  | un | own (t : T) | hid (t : T)
/-- the slots' trees; P: where hidden trees stand -/
def SR (K : PySem.W.Frag) (P : Addr → Prop) (H : Hp) : List Slot → St → List Addr → Prop
  | [], σ, W => σ = [] ∧ W = []
  | .un :: ρ, σ, W => ∃ o r, σ = o :: r ∧ SR K P H ρ r W
  | .own t :: ρ, σ, W => ∃ v r w1 w2, σ = some v :: r ∧ RepT K H t v w1 ∧ SR K P H ρ r w2 ∧ W = w1 ++ w2
  | .hid t :: ρ, σ, W => ∃ v r w, σ = some v :: r ∧ RepT K H t v w ∧ (∀ b ∈ w, P b) ∧ SR K P H ρ r W
structure Good (K : PySem.W.Frag) (P : Addr → Prop) (H : Hp) (ρ : List Slot) (σ : St) (W : List Addr) : Prop where
  sr : SR K P H ρ σ W
  nd : W.Nodup
  ap : ∀ b, P b → b ∉ W ∧ ∃ o, H b = some o
section
variable {K : PySem.W.Frag} {P : Addr → Prop} {H H' : Hp} {W W0 : List Addr}
theorem SR.mut : ∀ {ρ : List Slot} {σ : St} {W : List Addr}, SR K P H ρ σ W → ∀ b ∈ W, MutO H b
  | [], _, _, ⟨_, e⟩, b, hb => by rw [e] at hb; simp at hb
  | .un :: _, _, _, ⟨o, r, e, h⟩, b, hb => SR.mut h b hb
  | .own t :: _, _, _, ⟨v, r, w1, w2, e, h, t', ew⟩, b, hb => by
    rw [ew] at hb
    exact (List.mem_append.mp hb).elim (h.mut b) (SR.mut t' b)
  | .hid t :: _, _, _, ⟨v, r, w, e, h, hn, t'⟩, b, hb => SR.mut t' b hb
theorem Good.mut {ρ : List Slot} {σ : St} (g : Good K P H ρ σ W) : ∀ b ∈ W, MutO H b := g.sr.mut
theorem SR.len : ∀ {ρ : List Slot} {σ : St} {W : List Addr}, SR K P H ρ σ W → σ.length = ρ.length
  | [], _, _, ⟨e, _⟩ => by rw [e]; rfl
  | .un :: _, _, _, ⟨o, r, e, h⟩ => by rw [e, List.length_cons, List.length_cons, SR.len h]
  | .own t :: _, _, _, ⟨v, r, w1, w2, e, h, t', ew⟩ => by rw [e, List.length_cons, List.length_cons, SR.len t']
  | .hid t :: _, _, _, ⟨v, r, w, e, h, hn, t'⟩ => by rw [e, List.length_cons, List.length_cons, SR.len t']
/-- all is kept but what is in W0, which is not here -/
theorem SR.keep (k : Kept W0 H H') (hp : ∀ b, P b → b ∉ W0) : ∀ {ρ : List Slot} {σ : St} {W : List Addr}, SR K P H ρ σ W → (∀ b ∈ W, b ∉ W0) → SR K P H' ρ σ W
  | [], _, _, h, _ => h
  | .un :: _, _, _, ⟨o, r, e, h⟩, hw => ⟨o, r, e, SR.keep k hp h hw⟩
  | .own t :: _, _, _, ⟨v, r, w1, w2, e, h, t', ew⟩, hw =>
    ⟨v, r, w1, w2, e, h.keep k fun b hb => hw b (by rw [ew]; exact List.mem_append_left _ hb), SR.keep k hp t' fun b hb => hw b (by rw [ew]; exact List.mem_append_right _ hb), ew⟩
  | .hid t :: _, _, _, ⟨v, r, w, e, h, hn, t'⟩, hw =>
    ⟨v, r, w, e, h.keep k fun b hb => hp b (hn b hb), hn, SR.keep k hp t' hw⟩
/-- more may be hidden -/
theorem SR.imp {P' : Addr → Prop} (i : ∀ b, P b → P' b) : ∀ {ρ : List Slot} {σ : St} {W : List Addr}, SR K P H ρ σ W → SR K P' H ρ σ W
  | [], _, _, h => h
  | .un :: _, _, _, ⟨o, r, e, h⟩ => ⟨o, r, e, SR.imp i h⟩
  | .own t :: _, _, _, ⟨v, r, w1, w2, e, h, t', ew⟩ => ⟨v, r, w1, w2, e, h, SR.imp i t', ew⟩
  | .hid t :: _, _, _, ⟨v, r, w, e, h, hn, t'⟩ => ⟨v, r, w, e, h, fun b hb => i b (hn b hb), SR.imp i t'⟩
/-- what is hidden stays apart -/
theorem Good.apart {ρ : List Slot} {σ : St} {W' : List Addr} (g : Good K P H ρ σ W) (st : Step W W' H H') : ∀ b, P b → b ∉ W' ∧ ∃ o, H' b = some o := fun b hb => by
  obtain ⟨h1, o, h2⟩ := g.ap b hb
  refine ⟨fun z => ?_, o, st.keep b o h2 h1⟩
  rcases st.new b z with z | z
  · exact h1 z
  · rw [h2] at z; cases z
end
end PW
end PwA
section PwB
set_option maxRecDepth 100000
/-! PwB: what an expression, arguments, a test, a block do to the slots' trees: transformers, and their judgements over the layer's. -/
namespace PW
open PySem PySem.Spec L2
open PyProof.Rows hiding St

/-- an operand: a tree, or what stands in a slot when it is wanted -/
inductive Opv where
  | val (t : T) | slot (i : Nat)
abbrev TF := List Slot → (Opv → List Slot → Prop) → Prop
abbrev TAF := List Slot → (List Opv → List Slot → Prop) → Prop
abbrev TTF := List Slot → (Bool → List Slot → Prop) → Prop
/-- what is wanted behind a statement -/
structure Es where
  nx : List Slot → Prop
  rt : T → List Slot → Prop
  bk : List Slot → Prop := fun _ => False
  ct : List Slot → Prop := fun _ => False
  xe : Exn → List Slot → Prop := fun _ _ => False
abbrev SF := Es → List Slot → Prop
abbrev GF := T → List Slot → (List Slot → Prop) → Prop

def RepO (K : PySem.W.Frag) (H : Hp) (σ : St) : Opv → V → List Addr → Prop
  | .val t, v, ws => RepT K H t v ws
  | .slot i, v, ws => σ[i]? = some (some v) ∧ ws = []
def RepOs (K : PySem.W.Frag) (H : Hp) (σ : St) : List Opv → List V → List Addr → Prop
  | [], vs, ws => vs = [] ∧ ws = []
  | o :: os, vs, ws => ∃ v r w1 w2, vs = v :: r ∧ RepO K H σ o v w1 ∧ RepOs K H σ os r w2 ∧ ws = w1 ++ w2
section
variable {K : PySem.W.Frag} {W : List Addr} {H H' : Hp} {σ : St}
theorem RepO.keep (k : Kept W H H') : ∀ {o : Opv} {v : V} {ws : List Addr}, RepO K H σ o v ws → (∀ b ∈ ws, b ∉ W) → RepO K H' σ o v ws
  | .val _, _, _, h, hw => RepT.keep k h hw
  | .slot _, _, _, h, _ => h
theorem RepOs.keep (k : Kept W H H') : ∀ {os : List Opv} {vs : List V} {ws : List Addr}, RepOs K H σ os vs ws → (∀ b ∈ ws, b ∉ W) → RepOs K H' σ os vs ws
  | [], _, _, h, _ => h
  | _ :: _, _, _, ⟨v, r, w1, w2, e, h, t, ew⟩, hw => ⟨v, r, w1, w2, e, h.keep k fun b hb => hw b (by rw [ew]; exact List.mem_append_left _ hb), RepOs.keep k t fun b hb => hw b (by rw [ew]; exact List.mem_append_right _ hb), ew⟩
theorem RepO.mut : ∀ {o : Opv} {v : V} {ws : List Addr}, RepO K H σ o v ws → ∀ b ∈ ws, MutO H b
  | .val _, _, _, h => RepT.mut h
  | .slot _, _, _, h => fun b hb => by rw [h.2] at hb; simp at hb
theorem RepOs.mut : ∀ {os : List Opv} {vs : List V} {ws : List Addr}, RepOs K H σ os vs ws → ∀ b ∈ ws, MutO H b
  | [], _, _, h => fun b hb => by rw [h.2] at hb; simp at hb
  | _ :: _, _, _, ⟨v, r, w1, w2, e, h, t, ew⟩ => fun b hb => by
    rw [ew] at hb; exact (List.mem_append.mp hb).elim (h.mut b) (RepOs.mut t b)
end

/-- slots at fx stay, none is added -/
def Fx (fx : List Nat) (σ σ' : St) : Prop := (∀ i ∈ fx, σ'[i]? = σ[i]?) ∧ σ'.length = σ.length
theorem Fx.refl {fx : List Nat} {σ : St} : Fx fx σ σ := ⟨fun _ _ => rfl, rfl⟩
theorem Fx.trans {fx : List Nat} {σ σ1 σ2 : St} (a : Fx fx σ σ1) (b : Fx fx σ1 σ2) : Fx fx σ σ2 := ⟨fun i hi => (b.1 i hi).trans (a.1 i hi), b.2.trans a.2⟩
theorem Fx.set {fx : List Nat} {σ σ1 : St} {i : Nat} {o : Option V} (a : Fx fx σ σ1) (h : i ∉ fx) : Fx fx σ (σ1.set i o) :=
  ⟨fun j hj => (List.getElem?_set_ne (fun e => h (by rw [e]; exact hj))).trans (a.1 j hj), by rw [List.length_set]; exact a.2⟩
/-- behind an expression -/
def Res (K : PySem.W.Frag) (P : Addr → Prop) (H : Hp) (σ : St) (W : List Addr) (v : V) (H' : Hp) (o : Opv) (ρ' : List Slot) : Prop :=
  ∃ ws W', Step W (ws ++ W') H H' ∧ (ws ++ W').Nodup ∧ SR K P H' ρ' σ W' ∧ RepO K H' σ o v ws
def ResA (K : PySem.W.Frag) (P : Addr → Prop) (H : Hp) (σ : St) (W : List Addr) (vs : List V) (H' : Hp) (os : List Opv) (ρ' : List Slot) : Prop :=
  ∃ ws W', Step W (ws ++ W') H H' ∧ (ws ++ W').Nodup ∧ SR K P H' ρ' σ W' ∧ RepOs K H' σ os vs ws
def ResT (K : PySem.W.Frag) (P : Addr → Prop) (H : Hp) (σ : St) (W : List Addr) (H' : Hp) (ρ' : List Slot) : Prop :=
  ∃ W', Step W W' H H' ∧ Good K P H' ρ' σ W'
/-- behind a statement: fx: slots that stay -/
def ResS (K : PySem.W.Frag) (P : Addr → Prop) (fx : List Nat) (H : Hp) (σ : St) (W : List Addr) (σ' : St) (H' : Hp) (ρ' : List Slot) : Prop :=
  ∃ W', Step W W' H H' ∧ Good K P H' ρ' σ' W' ∧ Fx fx σ σ'
def ResR (K : PySem.W.Frag) (P : Addr → Prop) (fx : List Nat) (H : Hp) (σ : St) (W : List Addr) (v : V) (H' : Hp) (t : T) (ρ' : List Slot) : Prop :=
  ∃ ws W' σ', Step W (ws ++ W') H H' ∧ (ws ++ W').Nodup ∧ SR K P H' ρ' σ' W' ∧ RepT K H' t v ws ∧ Fx fx σ σ'

def tO (K : PySem.W.Frag) (f : TF) : TE := fun σ H Q => ∃ P ρ W R, Good K P H ρ σ W ∧ f ρ R ∧ ∀ v H' o ρ', Res K P H σ W v H' o ρ' → R o ρ' → Q v H'
def tAO (K : PySem.W.Frag) (f : TAF) : TA := fun σ H Q => ∃ P ρ W R, Good K P H ρ σ W ∧ f ρ R ∧ ∀ vs H' os ρ', ResA K P H σ W vs H' os ρ' → R os ρ' → Q vs H'
def tTO (K : PySem.W.Frag) (f : TTF) : TT := fun σ H Q => ∃ P ρ W R, Good K P H ρ σ W ∧ f ρ R ∧ ∀ b H' ρ', ResT K P H σ W H' ρ' → R b ρ' → Q b H'
/-- it stands for this exception -/
def ExRep (K : PySem.W.Frag) (mg : Str → Option Value) (H : Hp) (x : Exn) (cls : Value) (d : Option Addr) : Prop := mg x.cls = some cls ∧ ∃ (dd : Addr) (fs : List (Str × V)), d = some dd ∧ H dd = some (.xd fs) ∧ RepFs K H x.fs fs
/-- such an exception may leave here -/
def XUp (X : Cx) (x : Exn) (σ : St) (H : Hp) : Prop := ∃ W : WX, Takes X W ∧ ∀ cls d, ExRep X.K X.mg H x cls d → W cls d σ H
def sO (X : Cx) (fx : List Nat) (f : SF) : TS := fun D σ H => ∃ P ρ W E, Good X.K P H ρ σ W ∧ f E ρ ∧
  (∀ σ' H' ρ', ResS X.K P fx H σ W σ' H' ρ' → E.nx ρ' → D.nx σ' H') ∧ (∀ v H' t ρ', ResR X.K P fx H σ W v H' t ρ' → E.rt t ρ' → D.rt v H') ∧
  (∀ σ' H' ρ', ResS X.K P fx H σ W σ' H' ρ' → E.bk ρ' → D.bk σ' H') ∧ (∀ σ' H' ρ', ResS X.K P fx H σ W σ' H' ρ' → E.ct ρ' → D.ct σ' H') ∧
  (∀ x σ' H' ρ', ResS X.K P fx H σ W σ' H' ρ' → E.xe x ρ' → XUp X x σ' H')
/-- storing a tree in a target -/
def gO (K : PySem.W.Frag) (fx : List Nat) (g : GF) : TG := fun v σ H Q => ∃ P ρ W ws t R, SR K P H ρ σ W ∧ (ws ++ W).Nodup ∧ (∀ b, P b → b ∉ ws ++ W ∧ ∃ o, H b = some o) ∧ RepT K H t v ws ∧ g t ρ R ∧
  ∀ σ' H' ρ', ResS K P fx H σ (ws ++ W) σ' H' ρ' → R ρ' → Q σ' H'

def VE (X : Cx) (e : Expr) (f : TF) : Prop := PE X e (tO X.K f)
def VA (X : Cx) (es : List Expr) (f : TAF) : Prop := PA X es (tAO X.K f)
def VT (X : Cx) (e : Expr) (f : TTF) : Prop := PT X e (tTO X.K f)
def VS (X : Cx) (fx : List Nat) (st : Stmt) (f : SF) : Prop := PS X st (sO X fx f)
def VSs (X : Cx) (fx : List Nat) (st : List Stmt) (f : SF) : Prop := PSs X st (sO X fx f)
def VG (X : Cx) (fx : List Nat) (tg : Expr) (g : GF) : Prop := PG X tg (gO X.K fx g)

section
variable {X : Cx} {e : Expr} {es : List Expr} {st : Stmt} {sts : List Stmt}
theorem _root_.L2.PE.pwi {t t' : TE} (h : PE X e t) (i : ∀ σ H Q, t' σ H Q → t σ H Q) : PE X e t' := ⟨fun pins s σ H Q I q => h.run pins s σ H Q I (i σ H Q q)⟩
theorem _root_.L2.PA.pwi {t t' : TA} (h : PA X es t) (i : ∀ σ H Q, t' σ H Q → t σ H Q) : PA X es t' := ⟨fun pos pins s σ H Q I q => h.run pos pins s σ H Q I (i σ H Q q)⟩
theorem _root_.L2.PT.pwi {t t' : TT} (h : PT X e t) (i : ∀ σ H Q, t' σ H Q → t σ H Q) : PT X e t' := ⟨fun pins s σ H Q I q => h.run pins s σ H Q I (i σ H Q q)⟩
theorem _root_.L2.PS.pwi {t t' : TS} (h : PS X st t) (i : ∀ D σ H, t' D σ H → t D σ H) : PS X st t' := ⟨fun pins s σ H D I q => h.run pins s σ H D I (i D σ H q)⟩
theorem _root_.L2.PSs.pwi {t t' : TS} (h : PSs X sts t) (i : ∀ D σ H, t' D σ H → t D σ H) : PSs X sts t' := ⟨fun pins s σ H D I q => h.run pins s σ H D I (i D σ H q)⟩
theorem _root_.L2.PG.pwi {t t' : TG} (h : PG X e t) (i : ∀ v σ H Q, t' v σ H Q → t v σ H Q) : PG X e t' := ⟨fun pins s σ H v u Q I r q => h.run pins s σ H v u Q I r (i v σ H Q q)⟩
end

/-! ### slots are read, pulled out, put back -/
section
variable {K : PySem.W.Frag} {P : Addr → Prop} {H H' : Hp} {W : List Addr}
theorem SR.read : ∀ {ρ : List Slot} {σ : St} {W : List Addr} {i : Nat} {t : T}, SR K P H ρ σ W → (ρ[i]? = some (.own t) ∨ ρ[i]? = some (.hid t)) → ∃ v ws, σ[i]? = some (some v) ∧ RepT K H t v ws
  | [], _, _, _, _, _, h => by simp at h
  | .un :: _, _, _, 0, _, _, h => by simp at h
  | .own t :: _, _, _, 0, t', ⟨v, r, w1, w2, e, h, _, _⟩, q => by
    have q : t = t' := by simpa using q
    subst q; exact ⟨v, w1, by rw [e]; rfl, h⟩
  | .hid t :: _, _, _, 0, t', ⟨v, r, w, e, h, _, _⟩, q => by
    have q : t = t' := by simpa using q
    subst q; exact ⟨v, w, by rw [e]; rfl, h⟩
  | .un :: _, _, _, i + 1, _, ⟨o, r, e, h⟩, q => by
    obtain ⟨v, ws, e1, r1⟩ := SR.read (i := i) h (by simpa using q)
    exact ⟨v, ws, by rw [e]; simpa using e1, r1⟩
  | .own _ :: _, _, _, i + 1, _, ⟨_, r, _, _, e, _, h, _⟩, q => by
    obtain ⟨v, ws, e1, r1⟩ := SR.read (i := i) h (by simpa using q)
    exact ⟨v, ws, by rw [e]; simpa using e1, r1⟩
  | .hid _ :: _, _, _, i + 1, _, ⟨_, r, _, e, _, _, h⟩, q => by
    obtain ⟨v, ws, e1, r1⟩ := SR.read (i := i) h (by simpa using q)
    exact ⟨v, ws, by rw [e]; simpa using e1, r1⟩
/-- a slot's tree is taken out (its place in the frame stays) -/
theorem SR.pull : ∀ {ρ : List Slot} {σ : St} {W : List Addr} {i : Nat} {t : T}, SR K P H ρ σ W → ρ[i]? = some (.own t) →
    ∃ v ws W1, σ[i]? = some (some v) ∧ RepT K H t v ws ∧ SR K P H (ρ.set i .un) σ W1 ∧ (∀ b, b ∈ W ↔ b ∈ ws ++ W1) ∧ (W.Nodup → (ws ++ W1).Nodup)
  | [], _, _, _, _, _, h => by simp at h
  | .un :: _, _, _, 0, _, _, h => by simp at h
  | .own t :: ρ, _, _, 0, t', ⟨v, r, w1, w2, e, h, g, ew⟩, q => by
    have q : t = t' := by simpa using q
    subst q
    exact ⟨v, w1, w2, by rw [e]; rfl, h, ⟨some v, r, e, g⟩, fun b => by rw [ew], fun nd => by rw [← ew]; exact nd⟩
  | .hid t :: _, _, _, 0, _, _, q => by simp at q
  | .un :: ρ, _, _, i + 1, _, ⟨o, r, e, h⟩, q => by
    obtain ⟨v, ws, W1, e1, r1, g, m, nd⟩ := SR.pull (i := i) h (by simpa using q)
    exact ⟨v, ws, W1, by rw [e]; simpa using e1, r1, ⟨o, r, e, g⟩, m, nd⟩
  | .own t0 :: ρ, _, _, i + 1, _, ⟨v0, r, w1, w2, e, h0, h, ew⟩, q => by
    obtain ⟨v, ws, W1, e1, r1, g, m, nd⟩ := SR.pull (i := i) h (by simpa using q)
    refine ⟨v, ws, w1 ++ W1, by rw [e]; simpa using e1, r1, ⟨v0, r, w1, W1, e, h0, g, rfl⟩, fun b => ?_, fun n => ?_⟩
    · rw [ew]; simp only [List.mem_append]
      have := m b
      simp only [List.mem_append] at this
      rw [this]
      constructor <;> (intro z; rcases z with z | z | z <;> simp [z])
    · rw [ew, List.nodup_append] at n
      obtain ⟨n1, n2, n3⟩ := n
      have n4 := nd n2
      rw [List.nodup_append] at n4 ⊢
      obtain ⟨a1, a2, a3⟩ := n4
      refine ⟨a1, List.nodup_append.mpr ⟨n1, a2, fun x hx y hy => n3 x hx y ((m y).mpr (List.mem_append_right _ hy))⟩, fun x hx y hy => ?_⟩
      rcases List.mem_append.mp hy with z | z
      · exact fun e' => n3 y z x ((m x).mpr (List.mem_append_left _ hx)) e'.symm
      · exact a3 x hx y z
  | .hid _ :: ρ, _, _, i + 1, _, ⟨v0, r, w, e, h0, hn, h⟩, q => by
    obtain ⟨v, ws, W1, e1, r1, g, m, nd⟩ := SR.pull (i := i) h (by simpa using q)
    exact ⟨v, ws, W1, by rw [e]; simpa using e1, r1, ⟨v0, r, w, e, h0, hn, g⟩, m, nd⟩
/-- a slot takes a tree -/
theorem SR.put : ∀ {ρ : List Slot} {σ : St} {W1 ws : List Addr} {i : Nat} {t : T} {v : V}, SR K P H ρ σ W1 → (ws ++ W1).Nodup → i < ρ.length → RepT K H t v ws →
    ∃ W, SR K P H (ρ.set i (.own t)) (σ.set i (some v)) W ∧ (∀ b, b ∈ W → b ∈ ws ++ W1) ∧ W.Nodup
  | [], _, _, _, _, _, _, _, _, h, _ => by simp at h
  | .un :: ρ, _, W1, ws, 0, t, v, ⟨o, r, e, h⟩, nd, _, q => ⟨ws ++ W1, ⟨v, r, ws, W1, by rw [e]; rfl, q, h, rfl⟩, fun _ h => h, nd⟩
  | .own t0 :: ρ, _, W1, ws, 0, t, v, ⟨v0, r, w1, w2, e, h0, h, ew⟩, nd, _, q => by
    subst ew
    refine ⟨ws ++ w2, ⟨v, r, ws, w2, by rw [e]; rfl, q, h, rfl⟩, fun b hb => ?_, ?_⟩
    · rcases List.mem_append.mp hb with z | z <;> simp [z]
    · exact nd.sublist (List.Sublist.append (List.Sublist.refl ws) (List.sublist_append_right w1 w2))
  | .hid t0 :: ρ, _, W1, ws, 0, t, v, ⟨v0, r, w, e, h0, hn, h⟩, nd, _, q => ⟨ws ++ W1, ⟨v, r, ws, W1, by rw [e]; rfl, q, h, rfl⟩, fun _ h => h, nd⟩
  | .un :: ρ, _, W1, ws, i + 1, t, v, ⟨o, r, e, h⟩, nd, hi, q => by
    obtain ⟨W, g, m, n⟩ := SR.put (i := i) h nd (by simpa using hi) q
    exact ⟨W, ⟨o, r.set i (some v), by rw [e]; rfl, g⟩, m, n⟩
  | .own t0 :: ρ, _, W1, ws, i + 1, t, v, ⟨v0, r, w1, w2, e, h0, h, ew⟩, nd, hi, q => by
    subst ew
    have nd' := nd
    rw [List.nodup_append] at nd
    obtain ⟨a1, a2, a3⟩ := nd
    rw [List.nodup_append] at a2
    obtain ⟨b1, b2, b3⟩ := a2
    obtain ⟨W, g, m, n⟩ := SR.put (i := i) h (List.nodup_append.mpr ⟨a1, b2, fun x hx y hy => a3 x hx y (List.mem_append_right _ hy)⟩) (by simpa using hi) q
    refine ⟨w1 ++ W, ⟨v0, r.set i (some v), w1, W, by rw [e]; rfl, h0, g, rfl⟩, fun b hb => ?_, List.nodup_append.mpr ⟨b1, n, fun x hx y hy => ?_⟩⟩
    · rcases List.mem_append.mp hb with z | z
      · simp [z]
      · rcases List.mem_append.mp (m b z) with z | z <;> simp [z]
    · rcases List.mem_append.mp (m y hy) with z | z
      · exact fun e' => a3 y z x (List.mem_append_left _ hx) e'.symm
      · exact b3 x hx y z
  | .hid t0 :: ρ, _, W1, ws, i + 1, t, v, ⟨v0, r, w, e, h0, hn, h⟩, nd, hi, q => by
    obtain ⟨W, g, m, n⟩ := SR.put (i := i) h nd (by simpa using hi) q
    exact ⟨W, ⟨v0, r.set i (some v), w, by rw [e]; rfl, h0, hn, g⟩, m, n⟩
/-- behind a step that leaves W1 alone: all is as it was -/
theorem SR.after {ρ : List Slot} {σ : St} {W0 W1 : List Addr} (g : SR K P H ρ σ W1) (hs : ∀ b o, H b = some o → b ∉ W0 → H' b = some o) (mu : ∀ b ∈ W0, MutO H b) (h0 : ∀ b, P b → b ∉ W0) (h1 : ∀ b ∈ W1, b ∉ W0) : SR K P H' ρ σ W1 :=
  SR.keep ⟨hs, mu⟩ h0 g h1
end
end PW
end PwB
section PwC
set_option maxRecDepth 100000
/-! PwC: expressions: constants, names, operands, operations, arguments, tests. -/
namespace PW
open PySem PySem.Spec L2
open PyProof.Rows hiding St

section
variable {K : PySem.W.Frag} {H H1 H2 : Hp} {W W1 W2 ws : List Addr}
theorem nd_right {α : Type} {a b : List α} (h : (a ++ b).Nodup) : b.Nodup := (List.nodup_append.mp h).2.1
theorem nd_left {α : Type} {a b : List α} (h : (a ++ b).Nodup) : a.Nodup := (List.nodup_append.mp h).1
theorem nd_apart {α : Type} {a b : List α} (h : (a ++ b).Nodup) : ∀ x ∈ a, x ∉ b := fun x hx hy => (List.nodup_append.mp h).2.2 x hx x hy rfl
theorem nd_mk {α : Type} {a b : List α} (h1 : a.Nodup) (h2 : b.Nodup) (h3 : ∀ x ∈ a, x ∉ b) : (a ++ b).Nodup := List.nodup_append.mpr ⟨h1, h2, fun x hx y hy e => h3 x hx (e ▸ hy)⟩
/-- two steps, the first one's gain ws held meanwhile -/
theorem glue (st : Step W (ws ++ W1) H H1) (nd : (ws ++ W1).Nodup) (mu : ∀ b ∈ ws, MutO H1 b) (st2 : Step W1 W2 H1 H2) (nd2 : W2.Nodup) : Step W (ws ++ W2) H H2 ∧ (ws ++ W2).Nodup :=
  ⟨st.trans st2 nd, nd_mk (nd_left nd) nd2 fun x hx hy => by
    rcases st2.new x hy with z | z
    · exact nd_apart nd x hx z
    · obtain ⟨o, e⟩ := (mu x hx).there
      rw [z] at e; cases e⟩
theorem Step.drop (st : Step W (ws ++ W1) H H1) : Step W W1 H H1 := ⟨st.keep, fun b hb => st.new b (List.mem_append_right _ hb)⟩
theorem Step.fresh (st : Step W W1 H H1) (sm : Same H1 H2) (fr : ∀ b ∈ ws, H1 b = none) (mu : ∀ b ∈ W, MutO H b) : Step W (ws ++ W1) H H2 :=
  ⟨fun b o h hb => sm b o (st.keep b o h hb), fun b hb => by
    rcases List.mem_append.mp hb with z | z
    · by_cases hw : b ∈ W
      · exact .inl hw
      · refine .inr ?_
        cases q : H b with
        | none => rfl
        | some o => have := st.keep b o q hw; rw [fr b z] at this; cases this
    · exact st.new b z⟩
theorem Step.new_nd (mu : ∀ b ∈ W1, MutO H1 b) (fr : ∀ b ∈ ws, H1 b = none) (n : ws.Nodup) (n1 : W1.Nodup) : (ws ++ W1).Nodup := nd_mk n n1 fun x hx hy => by
  obtain ⟨o, e⟩ := (mu x hy).there
  rw [fr x hx] at e; cases e
theorem Res.good {P : Addr → Prop} {σ : St} {ρ : List Slot} {v : V} {o : Opv} {ρ' : List Slot} (G : Good K P H ρ σ W) (r : Res K P H σ W v H1 o ρ') : ∃ ws W1, Good K P H1 ρ' σ W1 ∧ Step W (ws ++ W1) H H1 ∧ (ws ++ W1).Nodup ∧ RepO K H1 σ o v ws :=
  let ⟨ws, W1, st, nd, sr, rp⟩ := r
  ⟨ws, W1, ⟨sr, nd_right nd, G.apart st.drop⟩, st, nd, rp⟩
end

section
variable {X : Cx} {e a b c : Expr} {es : List Expr} {pos : Pos} {f fa fb fc : TF} {fs : TAF} {i : Nat}

/-! ### constants, names -/
def fCst (x : D) : TF := fun ρ Q => Q (.val (.d x)) ρ
/-- data in a slot -/
def fVar (i : Nat) : TF := fun ρ Q => match ρ[i]? with
  | some (.own (.d x)) => Q (.val (.d x)) ρ
  | some (.hid (.d x)) => Q (.val (.d x)) ρ
  | _ => False
/-- what stands in a slot when it is wanted -/
def fBor (i : Nat) : TF := fun ρ Q => match ρ[i]? with
  | some (.own _) => Q (.slot i) ρ
  | some (.hid _) => Q (.slot i) ρ
  | _ => False
/-- from here on nobody changes the list in a slot -/
def fFrz (i : Nat) : TF := fun ρ Q => match ρ[i]? with
  | some (.own (.d x)) => Q (.val (.d x)) ρ
  | some (.own (.ls xs)) => Q (.val (.d (.list xs))) (ρ.set i (.own (.d (.list xs))))
  | _ => False
/-- a slot's tree is taken -/
def fMv (i : Nat) : TF := fun ρ Q => match ρ[i]? with
  | some (.own t) => Q (.val t) (ρ.set i .un)
  | _ => False

theorem ve_cst {x : D} {v : V} (h : PE X e (tC v)) (r : ∀ H, RepD X.K H x v) : VE X e (fCst x) := h.pwi fun σ H Q ⟨P, ρ, W, R, G, q, k⟩ =>
  k _ _ (.val (.d x)) _ ⟨[], W, Step.refl _ _, by simpa using G.nd, G.sr, ⟨r H, rfl⟩⟩ q
theorem ve_int {j : Int} {k : Nat} : VE X (.Constant (.int j) k pos) (fCst (.int j)) := ve_cst pe_int fun _ => rfl
theorem ve_bl {j : Bool} {k : Nat} : VE X (.Constant (.bool j) k pos) (fCst (.bool j)) := ve_cst pe_bl fun _ => rfl
theorem ve_non {k : Nat} : VE X (.Constant .none k pos) (fCst .none) := ve_cst pe_non fun _ => rfl
theorem ve_str {j : Str} {k : Nat} : VE X (.Constant (.str j) k pos) (fCst (.str j)) := ve_cst pe_str fun _ => rfl
theorem ve_var (h : PE X e (tVar i)) : VE X e (fVar i) := h.pwi fun σ H Q ⟨P, ρ, W, R, G, q, k⟩ => by
  unfold fVar at q
  split at q
  · rename_i x hx
    obtain ⟨v, ws, hv, hr, hw⟩ := G.sr.read (.inl hx)
    exact ⟨v, hv, k _ _ (.val (.d x)) _ ⟨[], W, Step.refl _ _, by simpa using G.nd, G.sr, ⟨hr, rfl⟩⟩ q⟩
  · rename_i x hx
    obtain ⟨v, ws, hv, hr, hw⟩ := G.sr.read (.inr hx)
    exact ⟨v, hv, k _ _ (.val (.d x)) _ ⟨[], W, Step.refl _ _, by simpa using G.nd, G.sr, ⟨hr, rfl⟩⟩ q⟩
  · exact q.elim
theorem ve_bor (h : PE X e (tVar i)) : VE X e (fBor i) := h.pwi fun σ H Q ⟨P, ρ, W, R, G, q, k⟩ => by
  unfold fBor at q
  split at q
  · rename_i t hx
    obtain ⟨v, ws, hv, hr⟩ := G.sr.read (.inl hx)
    exact ⟨v, hv, k _ _ (.slot i) _ ⟨[], W, Step.refl _ _, by simpa using G.nd, G.sr, ⟨hv, rfl⟩⟩ q⟩
  · rename_i t hx
    obtain ⟨v, ws, hv, hr⟩ := G.sr.read (.inr hx)
    exact ⟨v, hv, k _ _ (.slot i) _ ⟨[], W, Step.refl _ _, by simpa using G.nd, G.sr, ⟨hv, rfl⟩⟩ q⟩
  · exact q.elim
theorem ve_mv (h : PE X e (tVar i)) : VE X e (fMv i) := h.pwi fun σ H Q ⟨P, ρ, W, R, G, q, k⟩ => by
  unfold fMv at q
  split at q
  · rename_i t hx
    obtain ⟨v, ws, W1, hv, hr, sr, m, n⟩ := G.sr.pull hx
    refine ⟨v, hv, k _ _ (.val t) _ ⟨ws, W1, ⟨fun b o h _ => h, fun b hb => .inl ((m b).mpr hb)⟩, n G.nd, sr, hr⟩ q⟩
  · exact q.elim
theorem set_same {α : Type} : ∀ {l : List α} {i : Nat} {x : α}, l[i]? = some x → l.set i x = l
  | [], _, _, h => by simp at h
  | y :: l, 0, x, h => by simp at h; simp [h]
  | y :: l, i + 1, x, h => by simp at h; simp [set_same h]
theorem SR.lt {ρ : List Slot} {i : Nat} {s : Slot} (h : ρ[i]? = some s) : i < ρ.length := (List.getElem?_eq_some_iff.mp h).1
/-- a list of a slot is locked for ever -/
theorem SR.lock {K : PySem.W.Frag} {H : Hp} {W : List Addr} {P : Addr → Prop} {ρ : List Slot} {σ : St} {i : Nat} {xs : List D} (G : Good K P H ρ σ W) (hx : ρ[i]? = some (.own (.ls xs))) :
    ∃ a vs, σ[i]? = some (some (.ref a)) ∧ H a = some (.lst vs) ∧ ∀ od, ∃ W1, Step W W1 H (upd H a (.frz od (.lst vs))) ∧ W1.Nodup ∧ SR K P (upd H a (.frz od (.lst vs))) (ρ.set i (.own (.d (.list xs)))) σ W1 ∧
      RepD K (upd H a (.frz od (.lst vs))) (.list xs) (.ref a) := by
  obtain ⟨v, ws, W1, hv, hr, sr, m, n⟩ := G.sr.pull hx
  obtain ⟨a, vs, e, h, r, ew⟩ := hr
  subst e ew
  have n' : ([a] ++ W1).Nodup := n G.nd
  have na : a ∉ W1 := nd_apart n' a (by simp)
  refine ⟨a, vs, hv, h, fun od => ?_⟩
  have kp : Kept [a] H (upd H a (.frz od (.lst vs))) := ⟨fun b o hb hn => by rw [upd_ne (by simpa using hn)]; exact hb, fun b hb => by
    have : b = a := by simpa using hb
    subst this; exact .inl ⟨_, h⟩⟩
  have rp : RepD K (upd H a (.frz od (.lst vs))) (.list xs) (.ref a) := ⟨a, vs, rfl, .inl ⟨od, upd_same⟩, r.keep kp⟩
  have sr1 : SR K P (upd H a (.frz od (.lst vs))) (ρ.set i .un) σ W1 := sr.after (W0 := [a]) kp.keep kp.mu (fun b hb z => (G.ap b hb).1 ((m b).mpr (List.mem_append_left _ z))) (fun b hb z => by
    have : b = a := by simpa using z
    subst this; exact na hb)
  have hi : i < (ρ.set i .un).length := by rw [List.length_set]; exact SR.lt hx
  obtain ⟨W2, sr2, m2, n2⟩ := sr1.put (ws := []) (t := .d (.list xs)) (v := .ref a) (by simpa using nd_right n') hi ⟨rp, rfl⟩
  rw [List.set_set] at sr2
  refine ⟨W2, ⟨fun b o hb hn => kp.keep b o hb fun z => hn ((m b).mpr (List.mem_append_left _ z)), fun b hb => .inl ((m b).mpr (by simpa using List.mem_append_right [a] (by simpa using m2 b hb)))⟩, n2, ?_, rp⟩
  have es : σ.set i (some (.ref a)) = σ := set_same hv
  rw [es] at sr2
  exact sr2
theorem ve_frz (h : PE X e (tVar i)) : VE X e (fFrz i) := by
  refine ⟨fun pins s σ H Q I ⟨P, ρ, W, R, G, q, k⟩ => ?_⟩
  unfold fFrz at q
  split at q
  · rename_i x hx
    obtain ⟨v, ws, hv, hr, hw⟩ := G.sr.read (.inl hx)
    exact h.run pins s σ H Q I ⟨v, hv, k _ _ (.val (.d x)) _ ⟨[], W, Step.refl _ _, by simpa using G.nd, G.sr, ⟨hr, rfl⟩⟩ q⟩
  · rename_i xs hx
    obtain ⟨a, vs, hv, ha, L⟩ := SR.lock G hx
    refine thn (h.run pins s σ H (fun v H1 => v = .ref a ∧ H1 = H) I ⟨.ref a, hv, rfl, rfl⟩) fun u s1 ⟨v, H1, I1, r1, e1, e2⟩ => ?_
    subst e1 e2
    obtain ⟨od, I2⟩ := I1.lock ha trivial
    obtain ⟨W1, st, n1, sr, rp⟩ := L od
    exact ⟨_, _, I2, r1, k _ _ (.val (.d (.list xs))) _ ⟨[], W1, st, n1, sr, ⟨rp, rfl⟩⟩ q⟩
  · exact q.elim

/-! ### arguments -/
def fNil : TAF := fun ρ Q => Q [] ρ
def fCons (f : TF) (g : TAF) : TAF := fun ρ Q => f ρ fun o ρ1 => g ρ1 fun os ρ2 => Q (o :: os) ρ2
theorem cons_core {K : PySem.W.Frag} {f : TF} {g : TAF} {σ : St} {H : Hp} {Q : List V → Hp → Prop} (h : tAO K (fCons f g) σ H Q) : tO K f σ H fun x H1 => tAO K g σ H1 fun xs H2 => Q (x :: xs) H2 := by
  obtain ⟨P, ρ, W, R, G, q, k⟩ := h
  refine ⟨P, ρ, W, _, G, q, fun v H1 o ρ1 r1 h1 => ?_⟩
  obtain ⟨ws, W1, G1, st, nd, rp⟩ := r1.good G
  refine ⟨P, ρ1, W1, _, G1, h1, fun vs H2 os ρ2 r2 h2 => k _ _ _ _ ?_ h2⟩
  obtain ⟨ws2, W2, st2, nd2, sr2, rp2⟩ := r2
  obtain ⟨st3, nd3⟩ := glue st nd rp.mut st2 nd2
  refine ⟨ws ++ ws2, W2, by rw [List.append_assoc]; exact st3, by rw [List.append_assoc]; exact nd3, sr2, v, vs, ws, ws2, rfl, rp.keep ⟨st2.keep, G1.mut⟩ fun b hb => nd_apart nd b hb, rp2, rfl⟩
theorem va_nil : VA X [] fNil := PA.pwi pa_nil fun σ H Q ⟨P, ρ, W, R, G, q, k⟩ => k _ _ [] _ ⟨[], W, Step.refl _ _, by simpa using G.nd, G.sr, ⟨rfl, rfl⟩⟩ q
theorem va_cons (ha : VE X e f) (hr : VA X es fs) (hs : starEach (e :: es) X.env = (false, eval e X.env) :: starEach es X.env := by rfl) : VA X (e :: es) (fCons f fs) :=
  PA.pwi (pa_cons ha hr hs) fun σ H Q h => cons_core h
theorem tO_mono {K : PySem.W.Frag} {f : TF} {σ : St} {H : Hp} {Q Q' : VK} (h : tO K f σ H Q) (i : ∀ v H', Q v H' → Q' v H') : tO K f σ H Q' :=
  let ⟨P, ρ, W, R, G, q, k⟩ := h
  ⟨P, ρ, W, R, G, q, fun v H' o ρ' r hr => i _ _ (k v H' o ρ' r hr)⟩
theorem two_core {K : PySem.W.Frag} {f g : TF} {σ : St} {H : Hp} {Q : List V → Hp → Prop} (h : tAO K (fCons f (fCons g fNil)) σ H Q) : tO K f σ H fun x H1 => tO K g σ H1 fun y H2 => Q [x, y] H2 :=
  tO_mono (cons_core h) fun v H1 h1 => tO_mono (cons_core h1) fun u H2 ⟨P, ρ, W, R, G, q, k⟩ => k _ _ [] _ ⟨[], W, Step.refl _ _, by simpa using G.nd, G.sr, ⟨rfl, rfl⟩⟩ q
theorem one_core {K : PySem.W.Frag} {f : TF} {σ : St} {H : Hp} {Q : List V → Hp → Prop} (h : tAO K (fCons f fNil) σ H Q) : tO K f σ H fun x H1 => Q [x] H1 :=
  tO_mono (cons_core h) fun v H1 ⟨P, ρ, W, R, G, q, k⟩ => k _ _ [] _ ⟨[], W, Step.refl _ _, by simpa using G.nd, G.sr, ⟨rfl, rfl⟩⟩ q

/-! ### operations on what is read -/
abbrev OF := List T → (T → Prop) → Prop
abbrev RV := List V → Hp → VK → Prop
def BReps (K : PySem.W.Frag) (H : Hp) : List T → List V → Prop
  | [], vs => vs = []
  | t :: ts, vs => ∃ v r ws, vs = v :: r ∧ RepT K H t v ws ∧ BReps K H ts r
/-- the operands as they stand now -/
def withR (ρ : List Slot) : List Opv → (List T → Prop) → Prop
  | [], k => k []
  | .val t :: os, k => withR ρ os fun ts => k (t :: ts)
  | .slot i :: os, k => match ρ[i]? with
    | some (.own t) => withR ρ os fun ts => k (t :: ts)
    | some (.hid t) => withR ρ os fun ts => k (t :: ts)
    | _ => False
theorem withR_ok {K : PySem.W.Frag} {P : Addr → Prop} {H : Hp} {W : List Addr} {ρ : List Slot} {σ : St} (sr : SR K P H ρ σ W) : ∀ {os : List Opv} {vs : List V} {ws : List Addr} {k : List T → Prop}, RepOs K H σ os vs ws → withR ρ os k → ∃ ts, BReps K H ts vs ∧ k ts
  | [], _, _, _, h, q => ⟨[], h.1, q⟩
  | .val t :: os, _, _, _, ⟨v, r, w1, w2, e, h, g, _⟩, q => by
    obtain ⟨ts, b, q'⟩ := withR_ok sr (os := os) g q
    exact ⟨t :: ts, ⟨v, r, w1, e, h, b⟩, q'⟩
  | .slot i :: os, _, _, _, ⟨v, r, w1, w2, e, h, g, _⟩, q => by
    unfold withR at q
    split at q
    · rename_i t hx
      obtain ⟨ts, b, q'⟩ := withR_ok sr (os := os) g q
      obtain ⟨v', ws', hv, hr⟩ := sr.read (.inl hx)
      have hv' := h.1.symm.trans hv
      have : v = v' := by injection hv' with z; injection z
      subst this
      exact ⟨t :: ts, ⟨v, r, ws', e, hr, b⟩, q'⟩
    · rename_i t hx
      obtain ⟨ts, b, q'⟩ := withR_ok sr (os := os) g q
      obtain ⟨v', ws', hv, hr⟩ := sr.read (.inr hx)
      have hv' := h.1.symm.trans hv
      have : v = v' := by injection hv' with z; injection z
      subst this
      exact ⟨t :: ts, ⟨v, r, ws', e, hr, b⟩, q'⟩
    · exact q.elim
def fOp (o : OF) (fs : TAF) : TF := fun ρ Q => fs ρ fun os ρ1 => withR ρ1 os fun ts => o ts fun t => Q (.val t) ρ1
/-- the layer's reading of an operation follows from ours -/
def OpOk (K : PySem.W.Frag) (o : OF) (r : RV) : Prop := ∀ ts vs H (Q : VK) (R : T → Prop), BReps K H ts vs → o ts R →
  (∀ v H' t ws, Same H H' → (∀ b ∈ ws, H b = none) → ws.Nodup → RepT K H' t v ws → R t → Q v H') → r vs H Q
theorem op_core {K : PySem.W.Frag} {o : OF} {r : RV} {fs : TAF} {σ : St} {H : Hp} {Q : VK} (ok : OpOk K o r) (h : tO K (fOp o fs) σ H Q) : tAO K fs σ H fun vs H1 => r vs H1 Q := by
  obtain ⟨P, ρ, W, R, G, q, k⟩ := h
  refine ⟨P, ρ, W, _, G, q, fun vs H1 os ρ1 ⟨ws, W1, st, nd, sr, rp⟩ h1 => ?_⟩
  obtain ⟨ts, b, h2⟩ := withR_ok sr rp h1
  have st1 := st.drop
  refine ok ts vs H1 Q _ b h2 fun v H2 t ws2 sm fr n2 rt ht => k _ _ (.val t) _ ⟨ws2, W1, st1.fresh sm fr G.mut, Step.new_nd sr.mut fr n2 (nd_right nd), ?_, rt⟩ ht
  exact sr.after (W0 := []) (fun b o h _ => sm b o h) (fun b hb => by simp at hb) (fun b _ => by simp) (fun b _ => by simp)
theorem ve_bin {op : Operator} {r2 : R2} {o : OF} (ho : OpR X (binaryOp op) r2) (ok : OpOk X.K o fun vs H Q => ∃ x y, vs = [x, y] ∧ r2 x y H Q) (ha : VE X a fa) (hb : VE X b fb) : VE X (.BinOp a op b pos) (fOp o (fCons fa (fCons fb fNil))) :=
  (pe_op ho ha hb).pwi fun σ H Q h => tO_mono (two_core (op_core ok h)) fun x H1 h1 => tO_mono h1 fun y H2 ⟨x', y', e, h2⟩ => by
    injection e with e1 e2; injection e2 with e2 _; subst e1 e2; exact h2
theorem ve_cmp {op : CmpOp} {r2 : R2} {o : OF} (ho : OpR X (compareOp op) r2) (ok : OpOk X.K o fun vs H Q => ∃ x y, vs = [x, y] ∧ r2 x y H Q) (ha : VE X a fa) (hb : VE X b fb) (hm : behindInMarks op b = false) : VE X (.Compare a [op] [b] pos) (fOp o (fCons fa (fCons fb fNil))) :=
  (pe_cmpR ho ha hb hm).pwi fun σ H Q h => tO_mono (two_core (op_core ok h)) fun x H1 h1 => tO_mono h1 fun y H2 ⟨x', y', e, h2⟩ => by
    injection e with e1 e2; injection e2 with e2 _; subst e1 e2; exact h2
theorem ve_un {op : UnaryOp} {r : V → Hp → VK → Prop} {o : OF} (ho : UnR X (unaryOp op) r) (ok : OpOk X.K o fun vs H Q => ∃ x, vs = [x] ∧ r x H Q) (ha : VE X a fa) : VE X (.UnaryOp op a pos) (fOp o (fCons fa fNil)) :=
  (pe_un ho ha).pwi fun σ H Q h => tO_mono (one_core (op_core ok h)) fun x H1 ⟨x', e, h2⟩ => by
    injection e with e1 _; subst e1; exact h2
theorem ve_ix {r2 : R2} {o : OF} (ho : IxR X r2) (ok : OpOk X.K o fun vs H Q => ∃ x y, vs = [x, y] ∧ r2 x y H Q) (ha : VE X a fa) (hb : VE X b fb) (hs : PlainIx b) : VE X (.Subscript a b pos) (fOp o (fCons fa (fCons fb fNil))) :=
  (pe_ix ho ha hb hs).pwi fun σ H Q h => tO_mono (two_core (op_core ok h)) fun x H1 h1 => tO_mono h1 fun y H2 ⟨x', y', e, h2⟩ => by
    injection e with e1 e2; injection e2 with e2 _; subst e1 e2; exact h2
/-- a built-in function, by its name -/
theorem ve_callB {x : Str} {p : Pos} {id : String} {r : RV} {o : OF} (hc : CallR X (.builtin id) r) (ok : OpOk X.K o r) (hg : Gl X x) (hm : X.mg x = none) (hv : bootBuiltins x = some (.builtin id)) (ha : VA X (e :: es) fs) (hn : x ≠ "__name__" := by decide) (hdb : (x == ("__debug__" : Str)) = false := by decide)
    (he : starEach (e :: es) X.env = (false, eval e X.env) :: starEach es X.env := by rfl) (hpl : (backTo pos (starEach es X.env)).any (·.1) = false := by rfl) : VE X (.Call (.Name x p) (e :: es) [] pos) (fOp o fs) :=
  (pe_callB hc hg hm hv ha hn hdb he hpl).pwi fun σ H Q h => op_core ok h
theorem ve_callTy {x : Str} {p : Pos} {id : String} {r : RV} {o : OF} (hc : CallR X (.type id) r) (ok : OpOk X.K o r) (hg : Gl X x) (hm : X.mg x = none) (hv : bootBuiltins x = some (.type id)) (ha : VA X (e :: es) fs) (hn : x ≠ "__name__" := by decide) (hdb : (x == ("__debug__" : Str)) = false := by decide)
    (he : starEach (e :: es) X.env = (false, eval e X.env) :: starEach es X.env := by rfl) (hpl : (backTo pos (starEach es X.env)).any (·.1) = false := by rfl) : VE X (.Call (.Name x p) (e :: es) [] pos) (fOp o fs) :=
  (pe_callTy hc hg hm hv ha hn hdb he hpl).pwi fun σ H Q h => op_core ok h
/-- a tuple of data, a list of data -/
def datas : List T → Option (List D)
  | [] => some []
  | .d x :: ts => match datas ts with
    | some xs => some (x :: xs)
    | none => none
  | _ :: _ => none
theorem datas_eq : ∀ {ts : List T} {xs : List D}, datas ts = some xs → ts = xs.map T.d
  | [], xs, h => by cases h; rfl
  | .d x :: ts, xs, h => by
    unfold datas at h
    split at h
    · rename_i ys e
      cases h
      rw [datas_eq e]; rfl
    · cases h
  | .ls _ :: _, _, h => by cases h
  | .lt _ :: _, _, h => by cases h
  | .dk _ :: _, _, h => by cases h
  | .tp _ :: _, _, h => by cases h
  | .ex _ _ _ :: _, _, h => by cases h
  | .ob _ _ :: _, _, h => by cases h
  | .pt _ :: _, _, h => by cases h
def oTup : OF := fun ts R => match datas ts with
  | some xs => xs.length ≤ sizeLine ∧ R (.d (.tuple xs))
  | none => False
def oLst : OF := fun ts R => match datas ts with
  | some xs => xs.length ≤ sizeLine ∧ R (.ls xs)
  | none => False
theorem breps_d {K : PySem.W.Frag} {H : Hp} : ∀ {xs : List D} {vs : List V}, BReps K H (xs.map T.d) vs → RepDs K H xs vs
  | [], _, h => h
  | _ :: _, _, ⟨v, r, ws, e, h, g⟩ => ⟨v, r, e, h.1, breps_d g⟩
theorem same_upd {H : Hp} {p : Addr} {o : HO} (h : H p = none) : Same H (upd H p o) := fun b x e => by
  rw [upd_ne (ne_of_none e h)]
  exact e
theorem ok_tup {K : PySem.W.Frag} : OpOk K oTup fun vs H Q => vs.length ≤ sizeLine ∧ ∀ p, H p = none → Q (.ref p) (upd H p (.tup vs)) := by
  intro ts vs H Q R b h k
  unfold oTup at h
  split at h
  rotate_left
  · exact h.elim
  rename_i xs hx
  obtain ⟨hz, hR⟩ := h
  have hx := datas_eq hx
  subst hx
  have rp := breps_d b
  refine ⟨by rw [rp.length]; exact hz, fun p hp => k _ _ (.d (.tuple xs)) [] (same_upd hp) (by simp) (by simp) ⟨⟨p, vs, rfl, .inl (.inl upd_same), rp.keep (.same (same_upd hp))⟩, rfl⟩ hR⟩
theorem ok_lst {K : PySem.W.Frag} : OpOk K oLst fun vs H Q => vs.length ≤ sizeLine ∧ ∀ p, H p = none → Q (.ref p) (upd H p (.lst vs)) := by
  intro ts vs H Q R b h k
  unfold oLst at h
  split at h
  rotate_left
  · exact h.elim
  rename_i xs hx
  obtain ⟨hz, hR⟩ := h
  have hx := datas_eq hx
  subst hx
  have rp := breps_d b
  refine ⟨by rw [rp.length]; exact hz, fun p hp => k _ _ (.ls xs) [p] (same_upd hp) (fun b hb => ?_) (by simp) ⟨p, vs, rfl, upd_same, rp.keep (.same (same_upd hp)), rfl⟩ hR⟩
  have : b = p := by simpa using hb
  subst this; exact hp
theorem ve_tup {x1 : Nat} (h : VA X es fs) : VE X (.Tuple es x1 pos) (fOp oTup fs) := (pe_tup h).pwi fun σ H Q q => op_core ok_tup q
theorem ve_lst (h : VA X es fs) : VE X (.List es pos) (fOp oLst fs) := (pe_lst h).pwi fun σ H Q q => op_core ok_lst q

/-! ### tests -/
def fTest (f : TF) : TTF := fun ρ Q => f ρ fun o ρ1 => match o with
  | .val (.d (.bool k)) => Q k ρ1
  | _ => False
def fAnd (f g : TTF) : TTF := fun ρ Q => f ρ fun c ρ1 => if c = true then g ρ1 Q else Q false ρ1
def fOr (f g : TTF) : TTF := fun ρ Q => f ρ fun c ρ1 => if c = true then Q true ρ1 else g ρ1 Q
def fNot (f : TTF) : TTF := fun ρ Q => f ρ fun c ρ1 => Q (!c) ρ1
def fIfE (t : TTF) (f g : TF) : TF := fun ρ Q => t ρ fun c ρ1 => if c = true then f ρ1 Q else g ρ1 Q
/-- a test's value -/
def fOfT (f : TTF) : TF := fun ρ Q => f ρ fun c ρ1 => Q (.val (.d (.bool c))) ρ1
variable {ta tb : TTF}
theorem ResT.of {K : PySem.W.Frag} {P : Addr → Prop} {H H' : Hp} {σ : St} {W : List Addr} {ρ : List Slot} {v : V} {o : Opv} {ρ' : List Slot} (G : Good K P H ρ σ W) (r : Res K P H σ W v H' o ρ') : ResT K P H σ W H' ρ' :=
  let ⟨ws, W1, G1, st, nd, rp⟩ := r.good G
  ⟨W1, st.drop, G1⟩
theorem ResT.step {K : PySem.W.Frag} {P : Addr → Prop} {H H1 : Hp} {σ : St} {W : List Addr} {ρ1 : List Slot} (r : ResT K P H σ W H1 ρ1) : ∃ W1, Good K P H1 ρ1 σ W1 ∧ ∀ H2 ρ2, ResT K P H1 σ W1 H2 ρ2 → ResT K P H σ W H2 ρ2 := by
  obtain ⟨W1, st, G1⟩ := r
  refine ⟨W1, G1, fun H2 ρ2 ⟨W2, st2, G2⟩ => ⟨W2, ?_, G2⟩⟩
  have := st.trans (ws := []) st2 (by simpa using G1.nd)
  simpa using this
theorem test_core {K : PySem.W.Frag} {f : TF} {σ : St} {H : Hp} {Q : Bool → Hp → Prop} (h : tTO K (fTest f) σ H Q) : tO K f σ H fun x H' => ∃ k, x = .bl k ∧ Q k H' := by
  obtain ⟨P, ρ, W, R, G, q, k⟩ := h
  refine ⟨P, ρ, W, _, G, q, fun v H' o ρ' r hq => ?_⟩
  split at hq
  rotate_left
  · exact hq.elim
  rename_i c
  have r' := r
  obtain ⟨ws, W1, st, nd, sr, rp⟩ := r
  have rp : RepD K H' (.bool c) v ∧ ws = [] := rp
  exact ⟨c, rp.1, k _ _ _ (.of G r') hq⟩
theorem vt_cmp {op : CmpOp} {r2 : R2} {o : OF} (ho : OpR X (compareOp op) r2) (ok : OpOk X.K o fun vs H Q => ∃ x y, vs = [x, y] ∧ r2 x y H Q) (ha : VE X a fa) (hb : VE X b fb) (hm : behindInMarks op b = false) : VT X (.Compare a [op] [b] pos) (fTest (fOp o (fCons fa (fCons fb fNil)))) :=
  (pt_cmpR ho ha hb hm).pwi fun σ H Q h => tO_mono (two_core (op_core ok (test_core h))) fun x H1 h1 => tO_mono h1 fun y H2 ⟨x', y', e, h2⟩ => by
    injection e with e1 e2; injection e2 with e2 _; subst e1 e2; exact h2
theorem vt_val (h : VE X e f) (he : ∀ whole, isTrue e X.env whole = (do let v ← whole; standAt e.pos; holding [v] (truthy v)) := by intro _; rfl) : VT X e (fTest f) :=
  (pt_val h he).pwi fun σ H Q h => test_core h
theorem tTO_mono {K : PySem.W.Frag} {f : TTF} {σ : St} {H : Hp} {Q Q' : Bool → Hp → Prop} (h : tTO K f σ H Q) (i : ∀ v H', Q v H' → Q' v H') : tTO K f σ H Q' :=
  let ⟨P, ρ, W, R, G, q, k⟩ := h
  ⟨P, ρ, W, R, G, q, fun v H' ρ' r hr => i _ _ (k v H' ρ' r hr)⟩
theorem and_core {K : PySem.W.Frag} {σ : St} {H : Hp} {Q : Bool → Hp → Prop} (h : tTO K (fAnd ta tb) σ H Q) : tTO K ta σ H fun c H1 => if c = true then tTO K tb σ H1 Q else Q false H1 := by
  obtain ⟨P, ρ, W, R, G, q, k⟩ := h
  refine ⟨P, ρ, W, _, G, q, fun c H1 ρ1 r1 h1 => ?_⟩
  obtain ⟨W1, G1, cont⟩ := r1.step
  cases c with
  | true =>
    rw [if_pos rfl] at h1 ⊢
    exact ⟨P, ρ1, W1, R, G1, h1, fun b H2 ρ2 r2 h2 => k _ _ _ (cont _ _ r2) h2⟩
  | false =>
    rw [if_neg Bool.false_ne_true] at h1 ⊢
    exact k _ _ _ r1 h1
theorem or_core {K : PySem.W.Frag} {σ : St} {H : Hp} {Q : Bool → Hp → Prop} (h : tTO K (fOr ta tb) σ H Q) : tTO K ta σ H fun c H1 => if c = true then Q true H1 else tTO K tb σ H1 Q := by
  obtain ⟨P, ρ, W, R, G, q, k⟩ := h
  refine ⟨P, ρ, W, _, G, q, fun c H1 ρ1 r1 h1 => ?_⟩
  obtain ⟨W1, G1, cont⟩ := r1.step
  cases c with
  | true =>
    rw [if_pos rfl] at h1 ⊢
    exact k _ _ _ r1 h1
  | false =>
    rw [if_neg Bool.false_ne_true] at h1 ⊢
    exact ⟨P, ρ1, W1, R, G1, h1, fun b H2 ρ2 r2 h2 => k _ _ _ (cont _ _ r2) h2⟩
def VW (X : Cx) (e : Expr) (f : TTF) : Prop := PW X e (tTO X.K f)
theorem vw_and1 (ha : VT X a ta) : VW X (.BoolOp .And [a] pos) ta := pw_and1 ha
theorem vw_or1 (ha : VT X a ta) : VW X (.BoolOp .Or [a] pos) ta := pw_or1 ha
theorem _root_.L2.PW.pwi {t t' : TT} (h : PW X e t) (i : ∀ σ H Q, t' σ H Q → t σ H Q) : PW X e t' := ⟨fun wh pins s σ H Q I q => h.run wh pins s σ H Q I (i σ H Q q)⟩
theorem vw_and (ha : VT X a ta) (hb : VW X (.BoolOp .And (b :: es) pos) tb) : VW X (.BoolOp .And (a :: b :: es) pos) (fAnd ta tb) := PW.pwi (pw_and ha hb) fun σ H Q h => and_core h
theorem vw_or (ha : VT X a ta) (hb : VW X (.BoolOp .Or (b :: es) pos) tb) : VW X (.BoolOp .Or (a :: b :: es) pos) (fOr ta tb) := PW.pwi (pw_or ha hb) fun σ H Q h => or_core h
theorem vt_w (h : VW X e ta) : VT X e ta := PW.pt h
theorem vt_not (ha : VT X a ta) : VT X (.UnaryOp .Not a pos) (fNot ta) := (pt_not ha).pwi fun σ H Q ⟨P, ρ, W, R, G, q, k⟩ => ⟨P, ρ, W, _, G, q, fun c H1 ρ1 r1 h1 => k _ _ _ r1 h1⟩
theorem ve_ifE (hc : VT X c ta) (ha : VE X a fa) (hb : VE X b fb) : VE X (.IfExp c a b pos) (fIfE ta fa fb) := (pe_ifExp hc ha hb).pwi fun σ H Q ⟨P, ρ, W, R, G, q, k⟩ => by
  refine ⟨P, ρ, W, _, G, q, fun c H1 ρ1 r1 h1 => ?_⟩
  obtain ⟨W1, st, G1⟩ := r1
  have go : ∀ {f : TF}, f ρ1 R → tO X.K f σ H1 Q := fun hf => ⟨P, ρ1, W1, R, G1, hf, fun v H2 o ρ2 ⟨ws, W2, st2, nd2, sr2, rp2⟩ h2 => k _ _ _ _ ⟨ws, W2, by simpa using st.trans (ws := []) st2 (by simpa using G1.nd), nd2, sr2, rp2⟩ h2⟩
  cases c with
  | true => rw [if_pos rfl] at h1 ⊢; exact go h1
  | false => rw [if_neg Bool.false_ne_true] at h1 ⊢; exact go h1
end
end PW
end PwC
section PwD
set_option maxRecDepth 100000
/-! PwD: statements: blocks, names stored, tests, returns, targets, loops, changes of lists. -/
namespace PW
open PySem PySem.Spec L2
open PyProof.Rows hiding St

theorem _root_.L2.PS.pwI {X : Cx} {st : Stmt} {t t' : TS} (h : PS X st t) (i : ∀ pins s D σ H, Inv X pins σ H s → t' D σ H → t D σ H) : PS X st t' := ⟨fun pins s σ H D I q => h.run pins s σ H D I (i pins s D σ H I q)⟩
theorem _root_.L2.PG.pwI {X : Cx} {e : Expr} {t t' : TG} (h : PG X e t) (i : ∀ pins s v σ H Q, Inv X pins σ H s → t' v σ H Q → t v σ H Q) : PG X e t' := ⟨fun pins s σ H v u Q I r q => h.run pins s σ H v u Q I r (i pins s v σ H Q I q)⟩

section
variable {K : PySem.W.Frag} {P : Addr → Prop} {fx : List Nat} {H H1 : Hp} {σ : St} {W : List Addr} {ρ ρ1 : List Slot}
theorem ResS.refl (G : Good K P H ρ σ W) : ResS K P fx H σ W σ H ρ := ⟨W, Step.refl _ _, G, .refl⟩
theorem ResS.step {σ1 : St} (r : ResS K P fx H σ W σ1 H1 ρ1) : ∃ W1, Good K P H1 ρ1 σ1 W1 ∧ (∀ σ2 H2 ρ2, ResS K P fx H1 σ1 W1 σ2 H2 ρ2 → ResS K P fx H σ W σ2 H2 ρ2) ∧ (∀ v H2 t ρ2, ResR K P fx H1 σ1 W1 v H2 t ρ2 → ResR K P fx H σ W v H2 t ρ2) := by
  obtain ⟨W1, st, G1, hx⟩ := r
  refine ⟨W1, G1, fun σ2 H2 ρ2 ⟨W2, st2, G2, hx2⟩ => ⟨W2, ?_, G2, hx.trans hx2⟩, fun v H2 t ρ2 ⟨ws, W2, σ2, st2, nd2, sr2, rp2, hx2⟩ => ⟨ws, W2, σ2, ?_, nd2, sr2, rp2, hx.trans hx2⟩⟩
  · simpa using st.trans (ws := []) st2 (by simpa using G1.nd)
  · simpa using st.trans (ws := []) st2 (by simpa using G1.nd)
theorem Res.toS {v : V} {o : Opv} (G : Good K P H ρ σ W) (r : Res K P H σ W v H1 o ρ1) : ResS K P fx H σ W σ H1 ρ1 :=
  let ⟨ws, W1, G1, st, nd, rp⟩ := r.good G
  ⟨W1, st.drop, G1, .refl⟩
theorem ResT.toS (r : ResT K P H σ W H1 ρ1) : ResS K P fx H σ W σ H1 ρ1 :=
  let ⟨W1, st, G1⟩ := r
  ⟨W1, st, G1, .refl⟩
theorem set_other {α : Type} {l : List α} {i j : Nat} {x : α} (h : i ≠ j) : (l.set i x)[j]? = l[j]? := List.getElem?_set_ne h
theorem put_core {W1 ws : List Addr} {v : V} {t : T} {i : Nat} {σ0 : St} (ap : ∀ b, P b → b ∉ ws ++ W1 ∧ ∃ o, H1 b = some o) (st : Step W (ws ++ W1) H H1) (nd : (ws ++ W1).Nodup) (sr : SR K P H1 ρ1 σ0 W1) (rp : RepT K H1 t v ws) (hi : i < σ0.length) (hf : i ∉ fx) (hx : Fx fx σ σ0) :
    ResS K P fx H σ W (σ0.set i (some v)) H1 (ρ1.set i (.own t)) := by
  obtain ⟨W2, sr2, m, n⟩ := sr.put nd (by rw [← sr.len]; exact hi) rp
  exact ⟨W2, ⟨st.keep, fun b hb => st.new b (m b hb)⟩, ⟨sr2, n, fun b hb => ⟨fun z => (ap b hb).1 (m b z), (ap b hb).2⟩⟩, hx.set hf⟩
/-- a slot forgotten -/
theorem SR.kill : ∀ {ρ : List Slot} {σ : St} {W : List Addr} (i : Nat), SR K P H ρ σ W → ∃ W', SR K P H (ρ.set i .un) σ W' ∧ W'.Sublist W
  | [], _, _, _, h => ⟨[], by simpa [SR] using h.1, by simp⟩
  | .un :: ρ, _, W, 0, ⟨o, r, e, h⟩ => ⟨W, ⟨o, r, e, h⟩, List.Sublist.refl _⟩
  | .own t :: ρ, _, W, 0, ⟨v, r, w1, w2, e, h, t', ew⟩ => ⟨w2, ⟨some v, r, e, t'⟩, by rw [ew]; exact List.sublist_append_right _ _⟩
  | .hid t :: ρ, _, W, 0, ⟨v, r, w, e, h, hn, t'⟩ => ⟨W, ⟨some v, r, e, t'⟩, List.Sublist.refl _⟩
  | .un :: ρ, _, W, i + 1, ⟨o, r, e, h⟩ => let ⟨W', g, m⟩ := SR.kill i h; ⟨W', ⟨o, r, e, g⟩, m⟩
  | .own t :: ρ, _, W, i + 1, ⟨v, r, w1, w2, e, h, t', ew⟩ => let ⟨W', g, m⟩ := SR.kill i t'; ⟨w1 ++ W', ⟨v, r, w1, W', e, h, g, rfl⟩, by rw [ew]; exact List.Sublist.append (List.Sublist.refl _) m⟩
  | .hid t :: ρ, _, W, i + 1, ⟨v, r, w, e, h, hn, t'⟩ => let ⟨W', g, m⟩ := SR.kill i t'; ⟨W', ⟨v, r, w, e, h, hn, g⟩, m⟩
def killS : List Nat → List Slot → List Slot
  | [], ρ => ρ
  | i :: is, ρ => killS is (ρ.set i .un)
theorem ResS.kill {σ1 : St} : ∀ (is : List Nat) {ρ1 : List Slot}, ResS K P fx H σ W σ1 H1 ρ1 → ResS K P fx H σ W σ1 H1 (killS is ρ1)
  | [], _, h => h
  | i :: is, ρ1, ⟨W1, st, G1, hx⟩ => by
    obtain ⟨W2, sr2, m⟩ := G1.sr.kill i
    exact ResS.kill is ⟨W2, ⟨st.keep, fun b hb => st.new b (m.subset hb)⟩, ⟨sr2, G1.nd.sublist m, fun b hb => ⟨fun z => (G1.ap b hb).1 (m.subset z), (G1.ap b hb).2⟩⟩, hx⟩
end

section
variable {X : Cx} {fx : List Nat} {e tg : Expr} {es : List Expr} {st : Stmt} {sts body : List Stmt} {pos : Pos} {f fa fb : TF} {fs : TAF} {s r sa sb : SF} {t : TTF} {i : Nat}

/-! ### blocks -/
def bNil : SF := fun E ρ => E.nx ρ
def bCons (s r : SF) : SF := fun E ρ => s { E with nx := fun ρ1 => r E ρ1 } ρ
def bKill (is : List Nat) (r : SF) : SF := fun E ρ => r E (killS is ρ)
/-- the ways of a branching meet: what is known there is said -/
def bCut (I : List Slot → Prop) (s r : SF) : SF := fun E ρ => s { E with nx := I } ρ ∧ ∀ ρ1, I ρ1 → r E ρ1
theorem vss_nil : VSs X fx [] bNil := PSs.pwi pss_nil fun D σ H ⟨P, ρ, W, E, G, q, k1, k2, k3, k4, k5⟩ => k1 _ _ _ (.refl G) q
/-- going on from a state behind a part -/
theorem sO_from {P : Addr → Prop} {H H1 : Hp} {σ σ1 : St} {W : List Addr} {ρ1 : List Slot} {f : SF} {E : Es} {D : Ends} (rs : ResS X.K P fx H σ W σ1 H1 ρ1) (h : f E ρ1)
    (k1 : ∀ σ' H' ρ', ResS X.K P fx H σ W σ' H' ρ' → E.nx ρ' → D.nx σ' H') (k2 : ∀ v H' t ρ', ResR X.K P fx H σ W v H' t ρ' → E.rt t ρ' → D.rt v H')
    (k3 : ∀ σ' H' ρ', ResS X.K P fx H σ W σ' H' ρ' → E.bk ρ' → D.bk σ' H') (k4 : ∀ σ' H' ρ', ResS X.K P fx H σ W σ' H' ρ' → E.ct ρ' → D.ct σ' H')
    (k5 : ∀ x σ' H' ρ', ResS X.K P fx H σ W σ' H' ρ' → E.xe x ρ' → XUp X x σ' H') : sO X fx f D σ1 H1 := by
  obtain ⟨W1, G1, c1, c2⟩ := rs.step
  exact ⟨P, ρ1, W1, E, G1, h, fun _ _ _ r => k1 _ _ _ (c1 _ _ _ r), fun _ _ _ _ r => k2 _ _ _ _ (c2 _ _ _ _ r), fun _ _ _ r => k3 _ _ _ (c1 _ _ _ r), fun _ _ _ r => k4 _ _ _ (c1 _ _ _ r), fun _ _ _ _ r => k5 _ _ _ _ (c1 _ _ _ r)⟩
theorem vss_cons (h1 : VS X fx st s) (h2 : VSs X fx sts r) : VSs X fx (st :: sts) (bCons s r) := PSs.pwi (pss_cons h1 h2) fun D σ H ⟨P, ρ, W, E, G, q, k1, k2, k3, k4, k5⟩ =>
  ⟨P, ρ, W, _, G, q, fun σ1 H1 ρ1 rs h => sO_from rs h k1 k2 k3 k4 k5, k2, k3, k4, k5⟩
theorem vss_kill (is : List Nat) (h : VSs X fx sts r) : VSs X fx sts (bKill is r) := PSs.pwi h fun D σ H ⟨P, ρ, W, E, G, q, k1, k2, k3, k4, k5⟩ =>
  sO_from (ResS.kill is (.refl G)) q k1 k2 k3 k4 k5
theorem vss_cut (I : List Slot → Prop) (h1 : VS X fx st s) (h2 : VSs X fx sts r) : VSs X fx (st :: sts) (bCut I s r) := PSs.pwi (pss_cons h1 h2) fun D σ H ⟨P, ρ, W, E, G, ⟨q, qI⟩, k1, k2, k3, k4, k5⟩ =>
  ⟨P, ρ, W, _, G, q, fun σ1 H1 ρ1 rs h => sO_from rs (qI _ h) k1 k2 k3 k4 k5, k2, k3, k4, k5⟩

/-! ### small statements -/
def sPass : SF := fun E ρ => E.nx ρ
def sBrk : SF := fun E ρ => E.bk ρ
def sCnt : SF := fun E ρ => E.ct ρ
def sNever : SF := fun _ _ => False
def sDrop (f : TF) : SF := fun E ρ => f ρ fun _ ρ1 => E.nx ρ1
def sRet (f : TF) : SF := fun E ρ => f ρ fun o ρ1 => match o with
  | .val t => E.rt t ρ1
  | .slot _ => False
def sRetN : SF := fun E ρ => E.rt (.d .none) ρ
def sIf (t : TTF) (a b : SF) : SF := fun E ρ => t ρ fun c ρ1 => if c = true then a E ρ1 else b E ρ1
theorem vs_pass : VS X fx (.Pass pos) sPass := PS.pwi ps_pass fun D σ H ⟨P, ρ, W, E, G, q, k1, k2, k3, k4, k5⟩ => k1 _ _ _ (.refl G) q
theorem vs_brk : VS X fx (.Break pos) sBrk := PS.pwi ps_break fun D σ H ⟨P, ρ, W, E, G, q, k1, k2, k3, k4, k5⟩ => k3 _ _ _ (.refl G) q
theorem vs_cnt : VS X fx (.Continue pos) sCnt := PS.pwi ps_continue fun D σ H ⟨P, ρ, W, E, G, q, k1, k2, k3, k4, k5⟩ => k4 _ _ _ (.refl G) q
theorem vs_never : VS X fx st sNever := PS.pwi ps_never fun D σ H ⟨P, ρ, W, E, G, q, k1, k2, k3, k4, k5⟩ => q
theorem vss_never : VSs X fx sts sNever := PSs.pwi pss_never fun D σ H ⟨P, ρ, W, E, G, q, k1, k2, k3, k4, k5⟩ => q
theorem vs_doc {x : Str} {j : Nat} {pos' : Pos} : VS X fx (.Expr (.Constant (.str x) j pos) pos') sPass := PS.pwi ps_doc fun D σ H ⟨P, ρ, W, E, G, q, k1, k2, k3, k4, k5⟩ => k1 _ _ _ (.refl G) q
theorem vs_expr (h : VE X e f) (hs : swapsWith e none pos.line X.env = pure false := by rfl) : VS X fx (.Expr e pos) (sDrop f) := PS.pwi (ps_expr h hs) fun D σ H ⟨P, ρ, W, E, G, q, k1, k2, k3, k4, k5⟩ =>
  ⟨P, ρ, W, _, G, q, fun v H1 o ρ1 r1 h1 => k1 _ _ _ (r1.toS G) h1⟩
theorem vs_ret (h : VE X e f) : VS X fx (.Return (some e) pos) (sRet f) := PS.pwi (ps_ret h) fun D σ H ⟨P, ρ, W, E, G, q, k1, k2, k3, k4, k5⟩ =>
  ⟨P, ρ, W, _, G, q, fun v H1 o ρ1 r1 h1 => by
    obtain ⟨ws, W1, st, nd, sr, rp⟩ := r1
    cases o with
    | val t => exact k2 _ _ t ρ1 ⟨ws, W1, σ, st, nd, sr, rp, .refl⟩ h1
    | slot j => exact (show False from h1).elim⟩
theorem vs_retN : VS X fx (.Return none pos) sRetN := PS.pwi ps_retN fun D σ H ⟨P, ρ, W, E, G, q, k1, k2, k3, k4, k5⟩ =>
  k2 _ _ (.d .none) ρ ⟨[], W, σ, Step.refl _ _, by simpa using G.nd, G.sr, ⟨rfl, rfl⟩, .refl⟩ q
theorem vs_if {c : Expr} {a b : List Stmt} (hc : VT X c t) (ha : VSs X fx a sa) (hb : VSs X fx b sb) : VS X fx (.If c a b pos) (sIf t sa sb) := PS.pwi (ps_if hc ha hb) fun D σ H ⟨P, ρ, W, E, G, q, k1, k2, k3, k4, k5⟩ =>
  ⟨P, ρ, W, _, G, q, fun c H1 ρ1 r1 h1 => by
    cases c with
    | true => rw [if_pos rfl] at h1 ⊢; exact sO_from r1.toS h1 k1 k2 k3 k4 k5
    | false => rw [if_neg Bool.false_ne_true] at h1 ⊢; exact sO_from r1.toS h1 k1 k2 k3 k4 k5⟩

/-! ### targets -/
def gNm (i : Nat) : GF := fun t ρ R => R (ρ.set i (.own t))
abbrev GsF := List D → List Slot → (List Slot → Prop) → Prop
def gN : GsF := fun xs ρ R => xs = [] ∧ R ρ
def gC (g : GF) (gs : GsF) : GsF := fun xs ρ R => match xs with
  | x :: r => g (.d x) ρ fun ρ1 => gs r ρ1 R
  | [] => False
def gTp (n : Nat) (gs : GsF) : GF := fun t ρ R => match t with
  | .d (.tuple xs) => xs.length = n ∧ gs xs ρ R
  | _ => False
def gsO (K : PySem.W.Frag) (fx : List Nat) (g : GsF) : TGs := fun vs σ H Q => ∃ P ρ W xs R, Good K P H ρ σ W ∧ RepDs K H xs vs ∧ g xs ρ R ∧ ∀ σ' H' ρ', ResS K P fx H σ W σ' H' ρ' → R ρ' → Q σ' H'
def VGs (X : Cx) (fx : List Nat) (ts : List Expr) (g : GsF) : Prop := PGs X ts (gsO X.K fx g)
theorem _root_.L2.PGs.pwi {X : Cx} {ts : List Expr} {t t' : TGs} (h : PGs X ts t) (i : ∀ v σ H Q, t' v σ H Q → t v σ H Q) : PGs X ts t' := ⟨fun pins s σ H v u Q I r q => h.run pins s σ H v u Q I r (i v σ H Q q)⟩
theorem vg_nm (h : PG X e (gName i)) (hx : ∃ x, X.N[i]? = some x) (hf : i ∉ fx) : VG X fx e (gNm i) := PG.pwI h fun pins s v σ H Q I ⟨P, ρ, W, ws, t, R, sr, nd, ap, rp, q, k⟩ => by
  obtain ⟨x, hx⟩ := hx
  have hi : i < σ.length := by rw [I.len]; exact (List.getElem?_eq_some_iff.mp hx).1
  exact k _ _ _ (put_core ap (Step.refl _ _) nd sr rp hi hf .refl) q
theorem vgs_nil : VGs X fx [] gN := PGs.pwi pgs_nil fun vs σ H Q ⟨P, ρ, W, xs, R, G, rp, ⟨e, q⟩, k⟩ => by
  subst e
  exact ⟨rp, k _ _ _ (.refl G) q⟩
theorem vgs_cons {g : GF} {gs : GsF} (h1 : VG X fx e g) (h2 : VGs X fx es gs) (hs : (assignEach (e :: es) X.env).map (·.2) = assign e X.env :: (assignEach es X.env).map (·.2) := by rfl) : VGs X fx (e :: es) (gC g gs) :=
  PGs.pwi (pgs_cons h1 h2 hs) fun vs σ H Q ⟨P, ρ, W, xs, R, G, rp, q, k⟩ => by
    cases xs with
    | nil => exact (show False from q).elim
    | cons x r =>
      obtain ⟨v, vr, e, hv, hr⟩ := rp
      refine ⟨v, vr, e, P, ρ, W, [], .d x, _, G.sr, by simpa using G.nd, by simpa using G.ap, ⟨hv, rfl⟩, q, fun σ1 H1 ρ1 r1 h1 => ?_⟩
      obtain ⟨W1, st, G1, hx⟩ := r1
      have r1' : ResS X.K P fx H σ W σ1 H1 ρ1 := ⟨W1, by simpa using st, G1, hx⟩
      obtain ⟨W2, G2, c1, _⟩ := r1'.step
      refine ⟨P, ρ1, W2, r, R, G2, hr.keep ⟨fun b o h hb => st.keep b o h (by simpa using hb), fun b hb => G.mut b hb⟩, h1, fun _ _ _ r2 => k _ _ _ (c1 _ _ _ r2)⟩
theorem vg_tp {n k : Nat} {gs : GsF} (hc : X.calm = true) (h : VGs X fx es gs) (hn : (assignEach es X.env).length = n := by rfl) (hst : (assignEach es X.env).findIdx? (·.1) = none := by rfl) : VG X fx (.Tuple es k pos) (gTp n gs) :=
  PG.pwi (pg_tup hc h hn hst) fun v σ H Q ⟨P, ρ, W, ws, t, R, sr, nd, ap, rp, q, k⟩ => by
    unfold gTp at q
    split at q
    · rename_i xs
      obtain ⟨⟨a, vs, e, hs, hr⟩, ew⟩ := rp
      subst e ew
      refine ⟨a, vs, rfl, hs, by rw [hr.length]; exact q.1, P, ρ, W, xs, R, ⟨sr, by simpa using nd, by simpa using ap⟩, hr, q.2, fun σ' H' ρ' r1 h1 => k _ _ _ ?_ h1⟩
      simpa using r1
    · exact q.elim
/-- target = value -/
def sAsg (f : TF) (g : GF) : SF := fun E ρ => f ρ fun o ρ1 => match o with
  | .val t => g t ρ1 E.nx
  | .slot _ => False
theorem asg_core {g : GF} {D : Ends} {σ : St} {H : Hp} (h : sO X fx (sAsg f g) D σ H) : tAsg (tO X.K f) (gO X.K fx g) D σ H := by
  obtain ⟨P, ρ, W, E, G, q, k1, k2, k3, k4, k5⟩ := h
  refine ⟨P, ρ, W, _, G, q, fun v H1 o ρ1 r1 h1 => ?_⟩
  cases o with
  | slot j => exact (show False from h1).elim
  | val t =>
    obtain ⟨ws, W1, st, nd, sr, rp⟩ := r1
    refine ⟨P, ρ1, W1, ws, t, E.nx, sr, nd, G.apart st, rp, h1, fun σ2 H2 ρ2 r2 h2 => k1 _ _ _ ?_ h2⟩
    obtain ⟨W2, st2, G2, hx2⟩ := r2
    exact ⟨W2, by simpa using st.trans (ws := []) (W1 := ws ++ W1) st2 (by simpa using nd), G2, hx2⟩
theorem vs_asg {g : GF} (he : VE X e f) (hg : VG X fx tg g) (hs : swapsWithSole [tg] e pos.line X.env = pure false := by rfl) (hw : swappedStores [tg] e X.env = pure none := by rfl)
    (h1 : (assignEach [tg] X.env).map (·.2) = [assign tg X.env] := by rfl) : VS X fx (.Assign [tg] e pos) (sAsg f g) := PS.pwi (ps_asg he hg hs hw h1) fun D σ H h => asg_core h
/-- a, b = x, y: two local names -/
def sPar (i j : Nat) (fs : TAF) : SF := fun E ρ => fs ρ fun os ρ1 => match os with
  | [.val t, .val u] => E.nx ((ρ1.set i (.own t)).set j (.own u))
  | _ => False
theorem vs_par {j : Nat} {x y : Str} {a b : Expr} {px py pt : Pos} {kt k2 pt2} (hc : X.calm = true) (hN : X.N.Nodup) (hi : X.N[i]? = some x) (hj : X.N[j]? = some y) (hij : i ≠ j)
    (hx : X.env.scope.names.lookup x = some .local) (hy : X.env.scope.names.lookup y = some .local) (ha : VA X [a, b] fs)
    (hw : swappedStores [.Tuple [.Name x px, .Name y py] kt pt] (.Tuple [a, b] k2 pt2) X.env = pure (some [x, y])) (hfi : i ∉ fx) (hfj : j ∉ fx)
    (hs : swapsWithSole [.Tuple [.Name x px, .Name y py] kt pt] (.Tuple [a, b] k2 pt2) pos.line X.env = pure false := by rfl) :
    VS X fx (.Assign [.Tuple [.Name x px, .Name y py] kt pt] (.Tuple [a, b] k2 pt2) pos) (sPar i j fs) :=
  PS.pwI (ps_par hc hN hi hj hij hx hy ha hw hs) fun pins s D σ H I ⟨P, ρ, W, E, G, q, k1, k2, k3, k4, k5⟩ => by
    have li : i < σ.length := by rw [I.len]; exact (List.getElem?_eq_some_iff.mp hi).1
    have lj : j < σ.length := by rw [I.len]; exact (List.getElem?_eq_some_iff.mp hj).1
    refine ⟨P, ρ, W, _, G, q, fun vs H1 os ρ1 ⟨ws, W1, st, nd, sr, rp⟩ h1 => ?_⟩
    match os, rp, h1 with
    | [.val t, .val u], ⟨v, r, w1, w2, e, hv, ⟨v2, r2, w3, w4, e2, hv2, ⟨e3, e4⟩, ew2⟩, ew⟩, h1 =>
      subst e e2 e3 e4 ew2 ew
      refine ⟨v, v2, rfl, ?_⟩
      have ap := G.apart st
      have nd1 : (w1 ++ (w3 ++ W1)).Nodup := by simpa [List.append_assoc] using nd
      have rp2 : RepT X.K H1 u v2 w3 := hv2
      have rp1 : RepT X.K H1 t v w1 := hv
      obtain ⟨W2, sr2, m2, n2⟩ := sr.put (i := i) (t := t) (v := v) (ws := w1) (nd1.sublist (List.Sublist.append (List.Sublist.refl _) (List.sublist_append_right _ _))) (by rw [← sr.len]; exact li) rp1
      have hd : ∀ b ∈ w3, b ∉ W2 := fun b hb z => by
        rcases List.mem_append.mp (m2 b z) with z | z
        · exact nd_apart nd1 b z (List.mem_append_left _ hb)
        · exact nd_apart (nd_right nd1) b hb z
      have st2 : Step W (w3 ++ W2) H H1 := ⟨st.keep, fun b hb => by
        rcases List.mem_append.mp hb with z | z
        · exact st.new b (by simp [z])
        · rcases List.mem_append.mp (m2 b z) with z | z <;> exact st.new b (by simp [z])⟩
      have := put_core (fx := fx) (σ := σ) (i := j) (v := v2) (t := u) (ρ1 := ρ1.set i (.own t)) (σ0 := σ.set i (some v)) (ws := w3) (W1 := W2) (W := W) (H := H)
        (fun b hb => ⟨fun z => by
          rcases List.mem_append.mp z with z | z
          · exact (ap b hb).1 (by simp [z])
          · rcases List.mem_append.mp (m2 b z) with z | z <;> exact (ap b hb).1 (by simp [z]), (ap b hb).2⟩) st2 (nd_mk (nd_left (nd_right nd1)) n2 hd) sr2 rp2 (by rw [List.length_set]; exact lj) hfj
        (Fx.refl.set hfi)
      exact k1 _ _ _ this h1
    | [], _, h1 => exact (show False from h1).elim
    | [_], _, h1 => exact (show False from (by cases ‹Opv› <;> exact h1)).elim
    | .slot _ :: _ :: _, _, h1 => exact (show False from h1).elim
    | .val _ :: .slot _ :: _, _, h1 => exact (show False from h1).elim
    | .val _ :: .val _ :: _ :: _, _, h1 => exact (show False from h1).elim
end
end PW
end PwD
section PwE
set_option maxRecDepth 100000
/-! PwE: loops, comprehensions, changes of lists, calls, defs. -/
namespace PW
open PySem PySem.Spec L2
open PyProof.Rows hiding St

/-! ### what is walked -/
abbrev IF := List Slot → (List D → List Slot → Prop) → Prop
/-- whatever is kept of H0 but W, the items come one by one -/
def Yld (K : PySem.W.Frag) (J : It) (H0 : Hp) (W : List Addr) (xs : List D) : Prop := ∀ H, (∀ b o, H0 b = some o → b ∉ W → H b = some o) →
  (∀ i, i < xs.length → J.go i H ∧ ∀ x H', J.yld i H x H' → Same H H' ∧ ∃ d, xs[i]? = some d ∧ RepD K H' d x) ∧ ∀ i, i = xs.length → J.stop i H
def ResI (K : PySem.W.Frag) (P : Addr → Prop) (H : Hp) (σ : St) (W : List Addr) (J : It) (H' : Hp) (xs : List D) (ρ' : List Slot) : Prop :=
  ∃ W', Step W W' H H' ∧ Good K P H' ρ' σ W' ∧ Yld K J H' W' xs
def iO (K : PySem.W.Frag) (h : IF) : TI := fun σ H R => ∃ P ρ W Rq, Good K P H ρ σ W ∧ h ρ Rq ∧ ∀ J H' xs ρ', ResI K P H σ W J H' xs ρ' → Rq xs ρ' → R J H'
def VI (X : Cx) (tg it : Expr) (h : IF) : Prop := PI X tg it (iO X.K h)
theorem _root_.L2.PI.pwi {X : Cx} {tg it : Expr} {t t' : TI} (h : PI X tg it t) (i : ∀ σ H Q, t' σ H Q → t σ H Q) : PI X tg it t' := ⟨fun pins s σ H Q I q => h.run pins s σ H Q I (i σ H Q q)⟩

section
variable {X : Cx} {fx : List Nat} {e tg it elt : Expr} {es : List Expr} {st : Stmt} {sts body : List Stmt} {pos : Pos} {f fa fb : TF} {fs : TAF} {s r sb : SF} {t : TTF} {g : GF} {h : IF} {i : Nat}

def iLst (f : TF) : IF := fun ρ R => f ρ fun o ρ1 => match o with
  | .val (.ls xs) => R xs ρ1
  | .val (.d (.list xs)) => R xs ρ1
  | _ => False
def iTup (f : TF) : IF := fun ρ R => f ρ fun o ρ1 => match o with
  | .val (.d (.tuple xs)) => R xs ρ1
  | _ => False
theorem yld_list {K : PySem.W.Frag} {H0 : Hp} {W : List Addr} {a : Addr} {xs : List D} {vs : List V} (hs : (H0 a = some (.lst vs) ∧ a ∉ W) ∨ SqZ K H0 a vs) (rp : RepDs K H0 xs vs) (mu : ∀ b ∈ W, MutO H0 b) : Yld K (Itl K a) H0 W xs := fun H k => by
  have kp : Kept W H0 H := ⟨k, mu⟩
  have hs' : SqL K H a vs := by
    rcases hs with ⟨h, ha⟩ | h
    · exact .inl (.inl (k _ _ h ha))
    · exact (kp.sqZ h).l
  have rp' := rp.keep kp
  refine ⟨fun i hi => ⟨?_, fun x H' y => ?_⟩, fun i hi => ⟨vs, hs', by rw [rp.length]; exact Nat.le_of_eq hi.symm⟩⟩
  · obtain ⟨v, hv, _⟩ := rp'.get (List.getElem?_eq_getElem hi)
    exact ⟨vs, v, hs', hv⟩
  · obtain ⟨e, y⟩ := y
    subst e
    obtain ⟨v, hv, hr⟩ := rp'.get (List.getElem?_eq_getElem hi)
    have := y vs hs'
    rw [hv] at this; cases this
    exact ⟨Same.refl _, _, List.getElem?_eq_getElem hi, hr⟩
theorem yld_tup {K : PySem.W.Frag} {H0 : Hp} {W : List Addr} {a : Addr} {xs : List D} {vs : List V} (hs : SqT K H0 a vs) (rp : RepDs K H0 xs vs) (mu : ∀ b ∈ W, MutO H0 b) : Yld K (Itt K a) H0 W xs := fun H k => by
  have kp : Kept W H0 H := ⟨k, mu⟩
  have hs' : SqT K H a vs := kp.sqT hs
  have rp' := rp.keep kp
  refine ⟨fun i hi => ⟨?_, fun x H' y => ?_⟩, fun i hi => ⟨vs, hs', by rw [rp.length]; exact Nat.le_of_eq hi.symm⟩⟩
  · obtain ⟨v, hv, _⟩ := rp'.get (List.getElem?_eq_getElem hi)
    exact ⟨vs, v, hs', hv⟩
  · obtain ⟨e, y⟩ := y
    subst e
    obtain ⟨v, hv, hr⟩ := rp'.get (List.getElem?_eq_getElem hi)
    have := y vs hs'
    rw [hv] at this; cases this
    exact ⟨Same.refl _, _, List.getElem?_eq_getElem hi, hr⟩
theorem vi_lst (he : VE X it f) : VI X tg it (iLst f) := (pi_list he).pwi fun σ H R ⟨P, ρ, W, Rq, G, q, k⟩ => ⟨P, ρ, W, _, G, q, fun v H1 o ρ1 r1 h1 => by
  obtain ⟨ws, W1, G1, st, nd, rp⟩ := r1.good G
  split at h1
  · rename_i xs
    obtain ⟨a, vs, e, ha, hr, ew⟩ := rp
    subst e ew
    have na : a ∉ W1 := nd_apart nd a (by simp)
    exact ⟨a, rfl, ⟨vs, SqL.of ha⟩, k _ _ xs ρ1 ⟨W1, st.drop, G1, yld_list (.inl ⟨ha, na⟩) hr G1.mut⟩ h1⟩
  · rename_i xs
    obtain ⟨⟨a, vs, e, hs, hr⟩, ew⟩ := rp
    subst e ew
    exact ⟨a, rfl, ⟨vs, hs.l⟩, k _ _ xs ρ1 ⟨W1, st.drop, G1, yld_list (.inr hs) hr G1.mut⟩ h1⟩
  · exact h1.elim⟩
theorem vi_tup (he : VE X it f) : VI X tg it (iTup f) := (pi_tup he).pwi fun σ H R ⟨P, ρ, W, Rq, G, q, k⟩ => ⟨P, ρ, W, _, G, q, fun v H1 o ρ1 r1 h1 => by
  obtain ⟨ws, W1, G1, st, nd, rp⟩ := r1.good G
  split at h1
  · rename_i xs
    obtain ⟨⟨a, vs, e, hs, hr⟩, ew⟩ := rp
    subst e ew
    exact ⟨a, rfl, ⟨vs, hs⟩, k _ _ xs ρ1 ⟨W1, st.drop, G1, yld_tup hs hr G1.mut⟩ h1⟩
  · exact h1.elim⟩
/-- lo, lo + 1, .. n of them -/
def upto (lo : Int) : Nat → List D
  | 0 => []
  | n + 1 => .int lo :: upto (lo + 1) n
theorem upto_length : ∀ (n : Nat) (lo : Int), (upto lo n).length = n
  | 0, _ => rfl
  | n + 1, lo => by unfold upto; rw [List.length_cons, upto_length n]
theorem upto_get : ∀ (n : Nat) (lo : Int) (i : Nat), i < n → (upto lo n)[i]? = some (.int (lo + i))
  | 0, _, _, h => by omega
  | n + 1, lo, 0, _ => by simp [upto]
  | n + 1, lo, i + 1, h => by
    unfold upto
    rw [List.getElem?_cons_succ, upto_get n (lo + 1) i (by omega)]
    congr 2
    omega
theorem yld_range {K : PySem.W.Frag} {H0 : Hp} {W : List Addr} {lo : Int} {n : Nat} : Yld K (Itr lo n) H0 W (upto lo n) := fun H _ => by
  refine ⟨fun i hi => ⟨?_, fun x H' y => ?_⟩, fun i hi => ?_⟩
  · rw [upto_length] at hi; exact hi
  · obtain ⟨e, y⟩ := y
    subst e y
    rw [upto_length] at hi
    exact ⟨Same.refl _, _, upto_get n lo i hi, rfl⟩
  · rw [upto_length] at hi; exact Nat.le_of_eq hi.symm
def iRg1 (fs : TAF) : IF := fun ρ R => fs ρ fun os ρ1 => match os with
  | [.val (.d (.int j))] => (-(2 ^ 62) ≤ j ∧ j < 2 ^ 62) ∧ R (upto 0 j.toNat) ρ1
  | _ => False
def iRg2 (fs : TAF) : IF := fun ρ R => fs ρ fun os ρ1 => match os with
  | [.val (.d (.int i)), .val (.d (.int j))] => (-(2 ^ 62) ≤ i ∧ i < 2 ^ 62 ∧ -(2 ^ 62) ≤ j ∧ j < 2 ^ 62) ∧ R (upto i (j - i).toNat) ρ1
  | _ => False
theorem ResA.good {K : PySem.W.Frag} {P : Addr → Prop} {H H1 : Hp} {W : List Addr} {σ : St} {ρ ρ' : List Slot} {vs : List V} {os : List Opv} (G : Good K P H ρ σ W) (r : ResA K P H σ W vs H1 os ρ') : ∃ ws W1, Good K P H1 ρ' σ W1 ∧ Step W (ws ++ W1) H H1 ∧ (ws ++ W1).Nodup ∧ RepOs K H1 σ os vs ws := by
  obtain ⟨ws, W1, st, nd, sr, rp⟩ := r
  exact ⟨ws, W1, ⟨sr, nd_right nd, G.apart st.drop⟩, st, nd, rp⟩
theorem vi_rg1 {a : Expr} {p : Pos} (hg : Gl X "range") (hm : X.mg "range" = none) (ha : VA X [a] fs) (hs : starEach [a] X.env = [(false, eval a X.env)] := by rfl) : VI X tg (.Call (.Name "range" p) [a] [] pos) (iRg1 fs) :=
  (pi_range1 hg hm ha hs).pwi fun σ H R ⟨P, ρ, W, Rq, G, q, k⟩ => ⟨P, ρ, W, _, G, q, fun vs H1 os ρ1 r1 h1 => by
    obtain ⟨ws, W1, G1, st, nd, rp⟩ := r1.good G
    split at h1
    · rename_i j
      obtain ⟨v, r, w1, w2, e, ⟨hv, _⟩, ⟨e2, _⟩, _⟩ := rp
      have hv : v = .int j := hv
      subst e e2 hv
      exact ⟨j, rfl, h1.1.1, h1.1.2, k _ _ _ ρ1 ⟨W1, st.drop, G1, yld_range⟩ h1.2⟩
    · exact h1.elim⟩
theorem vi_rg2 {a b : Expr} {p : Pos} (hg : Gl X "range") (hm : X.mg "range" = none) (ha : VA X [a, b] fs) (hs : starEach [a, b] X.env = [(false, eval a X.env), (false, eval b X.env)] := by rfl) (hs2 : starEach [b] X.env = [(false, eval b X.env)] := by rfl) : VI X tg (.Call (.Name "range" p) [a, b] [] pos) (iRg2 fs) :=
  (pi_range2 hg hm ha hs hs2).pwi fun σ H R ⟨P, ρ, W, Rq, G, q, k⟩ => ⟨P, ρ, W, _, G, q, fun vs H1 os ρ1 r1 h1 => by
    obtain ⟨ws, W1, G1, st, nd, rp⟩ := r1.good G
    split at h1
    · rename_i i j
      obtain ⟨v, r, w1, w2, e, ⟨hv, _⟩, ⟨v2, r2, w3, w4, e2, ⟨hv2, _⟩, ⟨e3, _⟩, _⟩, _⟩ := rp
      have hv : v = .int i := hv
      have hv2 : v2 = .int j := hv2
      subst e e2 hv hv2 e3
      exact ⟨i, j, rfl, h1.1, k _ _ _ ρ1 ⟨W1, st.drop, G1, yld_range⟩ h1.2⟩
    · exact h1.elim⟩

/-! ### for, while -/
def lp (g : GF) (sb : SF) (E : Es) : List D → List Slot → Prop
  | [], ρ => E.nx ρ
  | x :: xs, ρ => g (.d x) ρ fun ρ1 => sb { nx := lp g sb E xs, ct := lp g sb E xs, bk := E.nx, rt := E.rt, xe := E.xe } ρ1
def sFor (h : IF) (g : GF) (sb : SF) : SF := fun E ρ => h ρ fun xs ρ1 => lp g sb E xs ρ1
theorem vs_for (hp : PassesOwn (model X.prog X.w) X.A X.env X.xe) (hc : X.calm = true) (hi : VI X tg it h) (hg : VG X fx tg g) (hb : VSs X fx body sb) (hs : ∀ x, foldedSetIterable it X.env x = pure x := by intro _; rfl) :
    VS X fx (.For tg it body [] pos) (sFor h g sb) := PS.pwi (ps_for hp hc hi hg hb hs) fun D σ H ⟨P, ρ, W, E, G, q, k1, k2, k3, k4, k5⟩ => ⟨P, ρ, W, _, G, q, fun J H1 xs ρ1 ⟨W1, st1, G1, yl⟩ h1 => by
  have R0 : ∀ {σ2 : St} {H2 : Hp} {ρ2 : List Slot}, ResS X.K P fx H1 σ W1 σ2 H2 ρ2 → ResS X.K P fx H σ W σ2 H2 ρ2 := fun {σ2 H2 ρ2} r => by
    have r0 : ResS X.K P fx H σ W σ H1 ρ1 := ⟨W1, st1, G1, .refl⟩
    obtain ⟨W2, st2, G2, hx⟩ := r
    exact ⟨W2, by simpa using st1.trans (ws := []) st2 (by simpa using G1.nd), G2, hx⟩
  have R1 : ∀ {v : V} {H2 : Hp} {t : T} {ρ2 : List Slot}, ResR X.K P fx H1 σ W1 v H2 t ρ2 → ResR X.K P fx H σ W v H2 t ρ2 := fun {v H2 t ρ2} ⟨ws, W2, σ2, st2, nd2, sr2, rp2, hx⟩ =>
    ⟨ws, W2, σ2, by simpa using st1.trans (ws := []) st2 (by simpa using G1.nd), nd2, sr2, rp2, hx⟩
  refine ⟨fun i m σ' H' => m = xs.length - i ∧ i ≤ xs.length ∧ ∃ ρ', ResS X.K P fx H1 σ W1 σ' H' ρ' ∧ lp g sb E (xs.drop i) ρ', ⟨xs.length, by simp, Nat.zero_le _, ρ1, .refl G1, by simpa using h1⟩, ?_⟩
  rintro i m σ' H' ⟨rfl, hi, ρ', rs, hl⟩
  obtain ⟨W2, st2, G2, hx2⟩ := id rs
  obtain ⟨yi, ys⟩ := yl H' st2.keep
  by_cases hlt : i < xs.length
  · obtain ⟨go, yd⟩ := yi i hlt
    refine .inr ⟨go, fun σ2 H2 => ∃ ρ2, ResS X.K P fx H1 σ W1 σ2 H2 ρ2 ∧ lp g sb E (xs.drop (i + 1)) ρ2, fun σ2 H2 ⟨ρ2, r2, l2⟩ => ⟨xs.length - (i + 1), by omega, rfl, hlt, ρ2, r2, l2⟩, fun x H3 y => ?_⟩
    obtain ⟨sm, d, hd, rd⟩ := yd x H3 y
    have G3 : Good X.K P H3 ρ' σ' W2 := ⟨G2.sr.after (W0 := []) (fun b o h _ => sm b o h) (by simp) (by simp) (by simp), G2.nd, fun b hb => ⟨(G2.ap b hb).1, let ⟨o, e⟩ := (G2.ap b hb).2; ⟨o, sm _ _ e⟩⟩⟩
    have r3 : ResS X.K P fx H1 σ W1 σ' H3 ρ' := ⟨W2, ⟨fun b o h hb => sm b o (st2.keep b o h hb), st2.new⟩, G3, hx2⟩
    rw [List.drop_eq_getElem_cons hlt] at hl
    have : xs[i] = d := by rw [List.getElem?_eq_getElem hlt] at hd; exact Option.some.inj hd
    rw [this] at hl
    refine ⟨P, ρ', W2, [], .d d, _, G3.sr, by simpa using G3.nd, by simpa using G3.ap, ⟨rd, rfl⟩, hl, fun σ4 H4 ρ4 r4 h4 => ?_⟩
    have r4' : ResS X.K P fx H1 σ W1 σ4 H4 ρ4 := by
      obtain ⟨W4, c1, c2, c3⟩ := r3.step
      obtain ⟨W5, st5, G5, hx5⟩ := r4
      obtain ⟨W3, st3, G3', hx3⟩ := r3
      refine ⟨W5, ?_, G5, hx2.trans hx5⟩
      have st6 : Step W1 W2 H1 H3 := ⟨fun b o h hb => sm b o (st2.keep b o h hb), st2.new⟩
      simpa using st6.trans (ws := []) (by simpa using st5) (by simpa using G3.nd)
    exact sO_from r4' h4 (fun σ5 H5 ρ5 r5 h5 => ⟨ρ5, r5, h5⟩) (fun v H5 t ρ5 r5 h5 => k2 _ _ _ _ (R1 r5) h5) (fun σ5 H5 ρ5 r5 h5 => k1 _ _ _ (R0 r5) h5) (fun σ5 H5 ρ5 r5 h5 => ⟨ρ5, r5, h5⟩) (fun x σ5 H5 ρ5 r5 h5 => k5 _ _ _ _ (R0 r5) h5)
  · have e : xs.drop i = [] := List.drop_eq_nil_of_le (by omega)
    rw [e] at hl
    exact .inl ⟨ys i (by omega), k1 _ _ _ (R0 rs) hl⟩⟩
/-- I: what holds ahead of each test, with a number that falls -/
def sWhile (t : TTF) (sb : SF) : SF := fun E ρ => ∃ I : Nat → List Slot → Prop, (∃ m, I m ρ) ∧ ∀ m ρ1, I m ρ1 → t ρ1 fun c ρ2 =>
  if c = true then sb { nx := fun ρ3 => ∃ m', m' < m ∧ I m' ρ3, ct := fun ρ3 => ∃ m', m' < m ∧ I m' ρ3, bk := E.nx, rt := E.rt, xe := E.xe } ρ2 else E.nx ρ2
theorem vs_while {c : Expr} (hp : PassesOwn (model X.prog X.w) X.A X.env X.xe) (hc : VT X c t) (hb : VSs X fx body sb) : VS X fx (.While c body [] pos) (sWhile t sb) :=
  PS.pwi (ps_while hp hc hb) fun D σ H ⟨P, ρ, W, E, G, ⟨I, ⟨m0, i0⟩, turn⟩, k1, k2, k3, k4, k5⟩ => by
    refine ⟨fun m σ' H' => ∃ ρ', ResS X.K P fx H σ W σ' H' ρ' ∧ I m ρ', ⟨m0, ρ, .refl G, i0⟩, ?_⟩
    rintro m σ' H' ⟨ρ', rs, hi⟩
    obtain ⟨W1, G1, c1, c2⟩ := rs.step
    refine ⟨P, ρ', W1, _, G1, turn m ρ' hi, fun b H2 ρ2 r2 h2 => ?_⟩
    have r2' : ResS X.K P fx H σ W σ' H2 ρ2 := c1 _ _ _ r2.toS
    cases b with
    | true =>
      rw [if_pos rfl] at h2
      refine iteT ⟨fun σ3 H3 => ∃ m', m' < m ∧ ∃ ρ3, ResS X.K P fx H σ W σ3 H3 ρ3 ∧ I m' ρ3, fun σ3 H3 ⟨m', hm, ρ3, r3, h3⟩ => ⟨m', hm, ρ3, r3, h3⟩, ?_⟩
      exact sO_from r2' h2 (fun σ5 H5 ρ5 r5 ⟨m', hm, h5⟩ => ⟨m', hm, ρ5, r5, h5⟩) (fun v H5 t ρ5 r5 h5 => k2 _ _ _ _ r5 h5) (fun σ5 H5 ρ5 r5 h5 => k1 _ _ _ r5 h5) (fun σ5 H5 ρ5 r5 ⟨m', hm, h5⟩ => ⟨m', hm, ρ5, r5, h5⟩) (fun x σ5 H5 ρ5 r5 h5 => k5 _ _ _ _ r5 h5)
    | false =>
      rw [if_neg Bool.false_ne_true] at h2
      exact iteF (k1 _ _ _ r2' h2)

/-! ### list comprehensions -/
def keepD : Slot → Slot
  | .own (.d x) => .own (.d x)
  | _ => .un
def ownsOf (ρ : List Slot) : List Nat → List (Nat × Slot)
  | [] => []
  | i :: is => (i, keepD (ρ.getD i .un)) :: ownsOf ρ is
def putBack : List (Nat × Slot) → List Slot → List Slot
  | [], ρ => ρ
  | (i, s) :: r, ρ => putBack r (ρ.set i s)
def lpC (vs : List Nat) (g : GF) (tt : TTF) (fe : TF) : List D → List D → List Slot → (List D → List Slot → Prop) → Prop
  | [], acc, ρ, Q => Q acc ρ
  | x :: xs, acc, ρ, Q => g (.d x) ρ fun ρ1 => tt ρ1 fun b ρ2 => if b = true then fe ρ2 fun o ρ3 => match o with
      | .val (.d y) => acc.length < sizeLine ∧ lpC vs g tt fe xs (acc ++ [y]) (killS vs ρ3) Q
      | _ => False
    else lpC vs g tt fe xs acc (killS vs ρ2) Q
def fLc (vs : List Nat) (h : IF) (g : GF) (tt : TTF) (fe : TF) : TF := fun ρ Q => h ρ fun xs ρ1 => lpC vs g tt fe xs [] (killS vs ρ1) fun ys ρ2 => Q (.val (.ls ys)) (putBack (ownsOf ρ1 vs) ρ2)
def tYesF : TTF := fun ρ Q => Q true ρ
/-- the slots but vs -/
def others (vs : List Nat) (n : Nat) : List Nat := (List.range n).filter fun i => !vs.contains i
theorem mem_others {vs : List Nat} {n i : Nat} : i ∈ others vs n ↔ i < n ∧ i ∉ vs := by
  unfold others
  rw [List.mem_filter, List.mem_range]
  simp
theorem SR.other {K : PySem.W.Frag} {P : Addr → Prop} {H : Hp} : ∀ {ρ : List Slot} {σ σ2 : St} {W : List Addr}, SR K P H ρ σ W → σ2.length = σ.length → (∀ i : Nat, σ2[i]? = σ[i]? ∨ ρ[i]? = some Slot.un) → SR K P H ρ σ2 W
  | [], σ, σ2, _, ⟨e, ew⟩, hl, _ => by
    subst e
    exact ⟨List.eq_nil_of_length_eq_zero hl, ew⟩
  | .un :: ρ, σ, σ2, W, ⟨o, r, e, h⟩, hl, hi => by
    subst e
    match σ2, hl with
    | o2 :: r2, hl => exact ⟨o2, r2, rfl, SR.other h (by simpa using hl) fun i => by simpa using hi (i + 1)⟩
  | .own t :: ρ, σ, σ2, W, ⟨v, r, w1, w2, e, q, h, ew⟩, hl, hi => by
    subst e
    match σ2, hl, hi with
    | o2 :: r2, hl, hi =>
      have h0 : o2 = some v := by simpa using hi 0
      subst h0
      exact ⟨v, r2, w1, w2, rfl, q, SR.other h (by simpa using hl) (fun i => by simpa using hi (i + 1)), ew⟩
  | .hid t :: ρ, σ, σ2, W, ⟨v, r, w, e, q, hn, h⟩, hl, hi => by
    subst e
    match σ2, hl, hi with
    | o2 :: r2, hl, hi =>
      have h0 : o2 = some v := by simpa using hi 0
      subst h0
      exact ⟨v, r2, w, rfl, q, hn, SR.other h (by simpa using hl) fun i => by simpa using hi (i + 1)⟩
theorem killS_length : ∀ (vs : List Nat) (ρ : List Slot), (killS vs ρ).length = ρ.length
  | [], _ => rfl
  | v :: vs, ρ => by unfold killS; rw [killS_length vs, List.length_set]
theorem killS_un : ∀ (vs : List Nat) (ρ : List Slot) (i : Nat), i < ρ.length → (i ∈ vs ∨ ρ[i]? = some Slot.un) → (killS vs ρ)[i]? = some Slot.un
  | [], ρ, i, _, h => by simpa [killS] using h
  | v :: vs, ρ, i, hl, h => by
    unfold killS
    refine killS_un vs _ i (by rw [List.length_set]; exact hl) ?_
    by_cases hv : v = i
    · subst hv; exact .inr (List.getElem?_set_self hl)
    · rcases h with h | h
      · rcases List.mem_cons.mp h with z | z
        · exact absurd z.symm hv
        · exact .inl z
      · exact .inr (by rw [List.getElem?_set_ne hv]; exact h)
theorem Good.killS {K : PySem.W.Frag} {P : Addr → Prop} {H : Hp} {ρ : List Slot} {σ : St} {W : List Addr} (vs : List Nat) (G : Good K P H ρ σ W) : ∃ W', Good K P H (killS vs ρ) σ W' ∧ ∀ b ∈ W', b ∈ W := by
  obtain ⟨W', st, G', _⟩ := ResS.kill (fx := []) vs (ResS.refl G)
  exact ⟨W', G', fun b hb => by
    rcases st.new b hb with z | z
    · exact z
    · obtain ⟨o, e⟩ := (G'.mut b hb).there
      rw [z] at e; cases e⟩
/-- between the frame's slots and a block's -/
theorem Good.swap {K : PySem.W.Frag} {P : Addr → Prop} {H : Hp} {ρ : List Slot} {σ σ2 : St} {W : List Addr} {vs : List Nat} (G : Good K P H (PW.killS vs ρ) σ W) (hl : σ2.length = σ.length) (h : ∀ i : Nat, i ∉ vs → σ2[i]? = σ[i]?) : Good K P H (PW.killS vs ρ) σ2 W :=
  ⟨G.sr.other hl fun i => by
    by_cases hi : i ∈ vs
    · by_cases hlt : i < ρ.length
      · exact .inr (killS_un vs ρ i hlt (.inl hi))
      · have e1 : σ.length = ρ.length := by rw [G.sr.len, killS_length]
        exact .inl (by rw [List.getElem?_eq_none (by omega), List.getElem?_eq_none (by omega)])
    · exact .inl (h i hi), G.nd, G.ap⟩
theorem Good.put0 {K : PySem.W.Frag} {P : Addr → Prop} {H H0 : Hp} {ρ0 : List Slot} {σ : St} {W0 : List Addr} (G0 : Good K P H0 ρ0 σ W0) (kp : Kept W0 H0 H) : ∀ (vs : List Nat) {ρ : List Slot} {W : List Addr}, Good K P H ρ σ W → ∃ W', Good K P H (putBack (ownsOf ρ0 vs) ρ) σ W' ∧ ∀ b ∈ W', b ∈ W
  | [], ρ, W, G => ⟨W, G, fun _ h => h⟩
  | i :: vs, ρ, W, G => by
    have go : ∃ W1, Good K P H (ρ.set i (keepD (ρ0.getD i .un))) σ W1 ∧ ∀ b ∈ W1, b ∈ W := by
      have dead : ∃ W1, Good K P H (ρ.set i .un) σ W1 ∧ ∀ b ∈ W1, b ∈ W := G.killS [i]
      cases q : ρ0[i]? with
      | none =>
        rw [List.getD_eq_getElem?_getD, q]
        exact dead
      | some s =>
        rw [List.getD_eq_getElem?_getD, q]
        show ∃ W1, Good K P H (ρ.set i (keepD s)) σ W1 ∧ ∀ b ∈ W1, b ∈ W
        unfold keepD
        split
        · rename_i x
          obtain ⟨v, ws, hv, hr, hw⟩ := G0.sr.read (.inl q)
          have hi : i < ρ.length := by rw [← G.sr.len]; exact (List.getElem?_eq_some_iff.mp hv).1
          obtain ⟨W2, sr2, m, n⟩ := G.sr.put (ws := []) (t := .d x) (v := v) (by simpa using G.nd) hi ⟨hr.keep kp, rfl⟩
          rw [set_same hv] at sr2
          exact ⟨W2, ⟨sr2, n, fun b hb => ⟨fun z => (G.ap b hb).1 (by simpa using m b z), (G.ap b hb).2⟩⟩, fun b hb => by simpa using m b hb⟩
        · exact dead
    obtain ⟨W1, G1, m1⟩ := go
    obtain ⟨W2, G2, m2⟩ := Good.put0 G0 kp vs G1
    exact ⟨W2, G2, fun b hb => m1 b (m2 b hb)⟩
theorem lc_red {K : PySem.W.Frag} {n : Nat} {vs : List Nat} {tt : TTF} {fe : TF} {σ : St} {H : Hp} {Q : VK} (hn : σ.length = n) (h0 : tO K (fLc vs h g tt fe) σ H Q) : tLc (iO K h) (gO K (others vs n) g) (tTO K tt) (tO K fe) vs σ H Q := by
  obtain ⟨P, ρ, W, R, G, q, k⟩ := h0
  refine ⟨P, ρ, W, _, G, q, fun J H1 xs ρ1 ⟨W1, st1, G1, yl⟩ h1 D hD => ?_⟩
  -- what holds ahead of a turn
  refine ⟨fun i m Hc => m = xs.length - i ∧ i ≤ xs.length ∧ ∃ acc accV ρc Wc, Hc D = some (.lst accV) ∧ RepDs K Hc acc accV ∧ Step W1 Wc H1 Hc ∧ Good K P Hc (killS vs ρc) (wipe σ vs) Wc ∧ D ∉ Wc ∧ lpC vs g tt fe (xs.drop i) acc (killS vs ρc) (fun ys ρ2 => R (.val (.ls ys)) (putBack (ownsOf ρ1 vs) ρ2)),
    ⟨xs.length, by simp, Nat.zero_le _, ?_⟩, ?_⟩
  · obtain ⟨W2, G2, m2⟩ := G1.killS vs
    have G3 := G2.swap (σ2 := wipe σ vs) (wipe_length σ vs) fun i hi => wipe_out hi
    have sm : Same H1 (upd H1 D (.lst [])) := same_upd hD
    refine ⟨[], [], ρ1, W2, upd_same, rfl, ⟨fun b o h _ => sm b o h, fun b hb => .inl (m2 b hb)⟩, ⟨G3.sr.after (W0 := []) (fun b o h _ => sm b o h) (by simp) (by simp) (by simp), G3.nd, fun b hb => ⟨(G3.ap b hb).1, let ⟨o, e⟩ := (G3.ap b hb).2; ⟨o, sm _ _ e⟩⟩⟩, fun z => ?_, by simpa using h1⟩
    obtain ⟨o, e⟩ := (G3.mut D z).there
    rw [hD] at e; cases e
  rintro i m Hc ⟨rfl, hi, acc, accV, ρc, Wc, hDc, rD, st2, G2, nD, hl⟩
  obtain ⟨yi, ys⟩ := yl Hc st2.keep
  have hP : ∀ b, P b → b ≠ D := fun b hb e => by
    obtain ⟨_, o, e2⟩ := G1.ap b hb
    rw [e, hD] at e2; cases e2
  by_cases hlt : i < xs.length
  · obtain ⟨go, yd⟩ := yi i hlt
    refine .inr ⟨go, fun H2 => ∃ acc accV ρc Wc, H2 D = some (.lst accV) ∧ RepDs K H2 acc accV ∧ Step W1 Wc H1 H2 ∧ Good K P H2 (killS vs ρc) (wipe σ vs) Wc ∧ D ∉ Wc ∧ lpC vs g tt fe (xs.drop (i + 1)) acc (killS vs ρc) (fun ys ρ2 => R (.val (.ls ys)) (putBack (ownsOf ρ1 vs) ρ2)),
      fun H2 hh => ⟨xs.length - (i + 1), by omega, rfl, hlt, hh⟩, fun x H3 y => ?_⟩
    obtain ⟨sm, d, hd, rd⟩ := yd x H3 y
    have G3 : Good K P H3 (killS vs ρc) (wipe σ vs) Wc := ⟨G2.sr.after (W0 := []) (fun b o h _ => sm b o h) (by simp) (by simp) (by simp), G2.nd, fun b hb => ⟨(G2.ap b hb).1, let ⟨o, e⟩ := (G2.ap b hb).2; ⟨o, sm _ _ e⟩⟩⟩
    rw [List.drop_eq_getElem_cons hlt] at hl
    have ed : xs[i] = d := by rw [List.getElem?_eq_getElem hlt] at hd; exact Option.some.inj hd
    rw [ed] at hl
    have nD3 : ∀ {Wz : List Addr} {Hz : Hp}, Step Wc Wz H3 Hz → D ∉ Wz := fun {Wz Hz} stz z => by
      rcases stz.new D z with z | z
      · exact nD z
      · rw [sm _ _ hDc] at z; cases z
    have stA : ∀ {Wz : List Addr} {Hz : Hp}, Step Wc Wz H3 Hz → Step W1 Wz H1 Hz := fun {Wz Hz} stz => by
      have st6 : Step W1 Wc H1 H3 := ⟨fun b o h hb => sm b o (st2.keep b o h hb), st2.new⟩
      simpa using st6.trans (ws := []) (by simpa using stz) (by simpa using G3.nd)
    have hDz : ∀ {Wz : List Addr} {Hz : Hp}, Step Wc Wz H3 Hz → Hz D = some (.lst accV) ∧ RepDs K Hz acc accV := fun {Wz Hz} stz =>
      ⟨stz.keep D _ (sm _ _ hDc) nD, (rD.keep (.same sm)).keep ⟨stz.keep, G3.mut⟩⟩
    refine ⟨P, killS vs ρc, Wc, [], .d d, _, G3.sr, by simpa using G3.nd, by simpa using G3.ap, ⟨rd, rfl⟩, hl, fun σ4 H4 ρ4 r4 h4 => ?_⟩
    obtain ⟨W4, st4, G4, fx4⟩ := r4
    have st4 : Step Wc W4 H3 H4 := by simpa using st4
    have e4 : ∀ j, j ∉ vs → σ4[j]? = (wipe σ vs)[j]? := fun j hj => by
      by_cases hjn : j < n
      · exact fx4.1 j (mem_others.mpr ⟨hjn, hj⟩)
      · have l1 : (wipe σ vs).length = n := by rw [wipe_length]; exact hn
        have l2 := fx4.2
        rw [List.getElem?_eq_none (by omega), List.getElem?_eq_none (by omega)]
    have w4 : wipe σ4 vs = wipe σ vs := by
      refine List.ext_getElem? fun j => ?_
      by_cases hj : j ∈ vs
      · have z : ∀ (τ : St) (us : List Nat), j ∈ us → j < τ.length → (wipe τ us)[j]? = some none := by
          intro τ us
          induction us with
          | nil => intro h; simp at h
          | cons u us ih =>
            intro h hlen
            unfold wipe
            by_cases hu : u = j
            · subst hu; exact List.getElem?_set_self (by rw [wipe_length]; exact hlen)
            · rw [List.getElem?_set_ne hu]
              exact ih (by rcases List.mem_cons.mp h with q | q; exact absurd q.symm hu; exact q) hlen
        have l2 : σ4.length = σ.length := by rw [fx4.2, wipe_length]
        by_cases hjl : j < σ.length
        · rw [z σ4 vs hj (by omega), z σ vs hj hjl]
        · rw [List.getElem?_eq_none (by rw [wipe_length]; omega), List.getElem?_eq_none (by rw [wipe_length]; omega)]
      · rw [wipe_out hj, e4 j hj]
    refine ⟨w4, P, ρ4, W4, _, G4, h4, fun b H5 ρ5 r5 h5 => ?_⟩
    obtain ⟨W5, st5, G5⟩ := r5
    have st5' : Step Wc W5 H3 H5 := by simpa using st4.trans (ws := []) (by simpa using st5) (by simpa using G4.nd)
    have back : ∀ {ρz : List Slot} {Hz : Hp} {Wz : List Addr}, Good K P Hz ρz σ4 Wz → ∃ Wy, Good K P Hz (killS vs ρz) (wipe σ vs) Wy ∧ ∀ b ∈ Wy, b ∈ Wz := fun {ρz Hz Wz} Gz => by
      obtain ⟨Wy, Gy, my⟩ := Gz.killS vs
      exact ⟨Wy, Gy.swap (by rw [fx4.2]) fun j hj => (e4 j hj).symm, my⟩
    cases b with
    | false =>
      rw [if_neg Bool.false_ne_true] at h5 ⊢
      obtain ⟨Wy, Gy, my⟩ := back G5
      have sty : Step Wc Wy H3 H5 := ⟨st5'.keep, fun b hb => st5'.new b (my b hb)⟩
      exact ⟨acc, accV, ρ5, Wy, (hDz sty).1, (hDz sty).2, stA sty, Gy, nD3 sty, h5⟩
    | true =>
      rw [if_pos rfl] at h5 ⊢
      refine ⟨P, ρ5, W5, _, G5, h5, fun v H6 o ρ6 r6 h6 => ?_⟩
      obtain ⟨ws6, W6, G6, st6, nd6, rp6⟩ := r6.good G5
      split at h6
      · rename_i yv
        obtain ⟨rv, ew⟩ := rp6
        subst ew
        have st6' : Step Wc W6 H3 H6 := by simpa using st5'.trans (ws := []) (by simpa using st6) (by simpa using G5.nd)
        obtain ⟨hD6, rD6⟩ := hDz st6'
        refine ⟨accV, hD6, by rw [rD6.length]; exact h6.1, ?_⟩
        obtain ⟨Wy, Gy, my⟩ := back G6
        have sty : Step Wc Wy H3 H6 := ⟨st6'.keep, fun b hb => st6'.new b (my b hb)⟩
        have nDy := nD3 sty
        have kD : Kept [D] H6 (upd H6 D (.lst (accV ++ [v]))) := ⟨fun b o h hb => by rw [upd_ne (by simpa using hb)]; exact h, fun b hb => by
          have : b = D := by simpa using hb
          subst this; exact .inl ⟨_, hD6⟩⟩
        refine ⟨acc ++ [yv], accV ++ [v], ρ6, Wy, upd_same, (rD6.keep kD).append (.one (rv.keep kD)), ?_, ⟨Gy.sr.after (W0 := [D]) kD.keep kD.mu (fun b hb => by simpa using hP b hb) (fun b hb z => ?_), Gy.nd, fun b hb => ⟨(Gy.ap b hb).1, let ⟨o, e⟩ := (Gy.ap b hb).2; ⟨o, by rw [upd_ne (hP b hb)]; exact e⟩⟩⟩, nDy, h6.2⟩
        · have s1 := stA sty
          refine ⟨fun b o h hb => ?_, s1.new⟩
          have : b ≠ D := fun e => by rw [e, hD] at h; cases h
          rw [upd_ne this]
          exact s1.keep b o h hb
        · have : b = D := by simpa using z
          subst this; exact nDy hb
      · exact h6.elim
  · have e : xs.drop i = [] := List.drop_eq_nil_of_le (by omega)
    rw [e] at hl
    refine .inl ⟨ys i (by omega), ?_⟩
    have G3 : Good K P Hc (killS vs ρc) σ Wc := G2.swap (by rw [wipe_length]) fun j hj => (wipe_out hj).symm
    obtain ⟨W4, G4, m4⟩ := Good.put0 G1 ⟨st2.keep, G1.mut⟩ vs G3
    have nD4 : D ∉ W4 := fun z => nD (m4 D z)
    refine k _ _ (.val (.ls acc)) _ ⟨[D], W4, ⟨fun b o h hb => st2.keep b o (st1.keep b o h hb) fun z => ?_, fun b hb => ?_⟩, nd_mk (by simp) G4.nd (by simpa using nD4), G4.sr, ⟨D, accV, rfl, hDc, rD, rfl⟩⟩ hl
    · rcases st1.new b z with z | z
      · exact hb z
      · rw [h] at z; cases z
    · rcases List.mem_append.mp hb with z | z
      · have : b = D := by simpa using z
        subst this
        by_cases hw : b ∈ W
        · exact .inl hw
        · refine .inr ?_
          cases q : H b with
          | none => rfl
          | some o => have := st1.keep b o q hw; rw [hD] at this; cases this
      · rcases st2.new b (m4 b z) with z | z
        · exact st1.new b z
        · by_cases hw : b ∈ W
          · exact .inl hw
          · refine .inr ?_
            cases q : H b with
            | none => rfl
            | some o => have := st1.keep b o q hw; rw [z] at this; cases this
def VTs (X : Cx) (ifs : List Expr) (t : TTF) : Prop := PTs X ifs (tTO X.K t)
theorem vts_nil : VTs X [] tYesF := ⟨fun pins s σ H Q I ⟨P, ρ, W, R, G, q, k⟩ => pts_nil.run pins s σ H Q I (k _ _ _ ⟨W, Step.refl _ _, G⟩ q)⟩
theorem vts_one {c : Expr} (hc : VT X c t) : VTs X [c] t := pts_one hc
theorem ve_lc {own : List (Str × Nat)} {scope : Scope} {ifs : List Expr} {tt : TTF} {fe : TF} {n : Nat} {vs : List Nat} (hn : X.N.length = n) (hv : own.map (·.2) = vs) (hc : X.calm = true) (hN : X.N.Nodup) (hi : VI X tg it h) (ok : BlkOk X.N X.env.scope scope own)
    (hg : ∀ (s : Shared) (H : Hp) (C : Addr) (cl : List (Str × Addr)) (fp : List Addr), VG (X.blk s H scope (compEnvC scope cl C X.env) fp) (others vs n) tg g) (ht : ∀ (s : Shared) (H : Hp) (C : Addr) (cl : List (Str × Addr)) (fp : List Addr), VTs (X.blk s H scope (compEnvC scope cl C X.env) fp) ifs tt)
    (he : ∀ (s : Shared) (H : Hp) (C : Addr) (cl : List (Str × Addr)) (fp : List Addr), VE (X.blk s H scope (compEnvC scope cl C X.env) fp) elt fe) (hs : ∀ x, foldedSetIterable it X.env x = pure x := by intro _; rfl) :
    VE X (.ListComp elt [⟨tg, it, ifs, 0⟩] scope pos) (fLc vs h g tt fe) := by
  subst hv
  have := pe_lc (pos := pos) (own := own) (g := gO X.K (others (own.map fun x : Str × Nat => x.2) n) g) (tt := tTO X.K tt) (te := tO X.K fe) hc hN hi ok hg ht he hs
  exact ⟨fun pins s σ H Q I q => this.run pins s σ H Q I (lc_red (by rw [I.len]; exact hn) q)⟩
theorem vs_setLc {own : List (Str × Nat)} {scope : Scope} {ifs : List Expr} {tt : TTF} {fe : TF} {n : Nat} {vs : List Nat} {y : Str} {py spos : Pos} (hn : X.N.length = n) (hv : own.map (·.2) = vs) (hf : i ∉ fx) (hc : X.calm = true) (hN : X.N.Nodup) (hy : X.N[i]? = some y) (hyl : X.env.scope.names.lookup y = some .local)
    (hsw : swapsWith (.ListComp elt [⟨tg, it, ifs, 0⟩] scope pos) (some (.Name y py)) spos.line X.env = pure true) (hi : VI X tg it h) (ok : BlkOk X.N X.env.scope scope own)
    (hg : ∀ (s : Shared) (H : Hp) (C : Addr) (cl : List (Str × Addr)) (fp : List Addr), VG (X.blk s H scope (compEnvC scope cl C X.env) fp) (others vs n) tg g) (ht : ∀ (s : Shared) (H : Hp) (C : Addr) (cl : List (Str × Addr)) (fp : List Addr), VTs (X.blk s H scope (compEnvC scope cl C X.env) fp) ifs tt)
    (he : ∀ (s : Shared) (H : Hp) (C : Addr) (cl : List (Str × Addr)) (fp : List Addr), VE (X.blk s H scope (compEnvC scope cl C X.env) fp) elt fe) (hs : ∀ x, foldedSetIterable it X.env x = pure x := by intro _; rfl) :
    VS X fx (.Assign [.Name y py] (.ListComp elt [⟨tg, it, ifs, 0⟩] scope pos) spos) (sAsg (fLc vs h g tt fe) (gNm i)) := by
  subst hv
  have := ps_setLc (i := i) (py := py) (spos := spos) (pos := pos) (own := own) (g := gO X.K (others (own.map fun x : Str × Nat => x.2) n) g) (tt := tTO X.K tt) (te := tO X.K fe) hc hN hy hyl hsw hi ok hg ht he hs
  refine ⟨fun pins s σ H D I q => this.run pins s σ H D I ?_⟩
  have hl : σ.length = n := by rw [I.len]; exact hn
  have q1 := asg_core q
  refine lc_red hl (tO_mono q1 fun v H1 ⟨P, ρ, W, ws, t, R, sr, nd, ap, rp, q, k⟩ => ?_)
  have hi' : i < σ.length := by rw [I.len]; exact (List.getElem?_eq_some_iff.mp hy).1
  exact k _ _ _ (put_core ap (Step.refl _ _) nd sr rp hi' hf .refl) q
end
end PW
end PwE
section PwF
set_option maxRecDepth 100000
/-! PwF: changes of lists, calls of defs, the rule of a def. -/
namespace PW
open PySem PySem.Spec L2
open PyProof.Rows hiding St

section
variable {X : Cx} {fx : List Nat} {e a b tg : Expr} {es : List Expr} {pos tpos : Pos} {f fa fb fi fe : TF} {fs : TAF} {i : Nat}

/-! ### lists changed -/
/-- the list, the operands; its answer and the list behind it -/
abbrev MF := List D → List T → (D → List D → Prop) → Prop
def MutOk (K : PySem.W.Frag) (m : MF) (r : V → List V → Hp → VK → Prop) : Prop := ∀ xs ts a xv vs H (Q : VK) (R : D → List D → Prop), H a = some (.lst xv) → RepDs K H xs xv → BReps K H ts vs → m xs ts R →
  (∀ v H' d ys yv, (∀ b o, H b = some o → b ≠ a → H' b = some o) → H' a = some (.lst yv) → RepDs K H' ys yv → RepD K H' d v → R d ys → Q v H') → r (.ref a) vs H Q
def fMut (i : Nat) (m : MF) (fs : TAF) : TF := fun ρ Q => match ρ[i]? with
  | some (.own (.ls _)) => fs ρ fun os ρ1 => match ρ1[i]? with
    | some (.own (.ls xs)) => withR ρ1 os fun ts => m xs ts fun d ys => Q (.val (.d d)) (ρ1.set i (.own (.ls ys)))
    | _ => False
  | _ => False
/-- the list in slot i becomes another -/
theorem ls_core {K : PySem.W.Frag} {P : Addr → Prop} {H H' : Hp} {ρ : List Slot} {σ : St} {W : List Addr} {xs ys : List D} {yv : List V} (G : Good K P H ρ σ W) (hx : ρ[i]? = some (.own (.ls xs))) {a : Addr} (hv : σ[i]? = some (some (.ref a)))
    (kp : ∀ b o, H b = some o → b ≠ a → H' b = some o) (ha : H' a = some (.lst yv)) (rp : RepDs K H' ys yv) : ∃ W', Step W W' H H' ∧ Good K P H' (ρ.set i (.own (.ls ys))) σ W' := by
  obtain ⟨v, ws, W1, hv', hr, sr, m, n⟩ := G.sr.pull hx
  obtain ⟨a', vs, e, h, r, ew⟩ := hr
  rw [hv] at hv'
  have e1 : a = a' := by injection hv' with z; injection z with z; rw [e] at z; injection z
  subst e1 ew
  have n' : ([a] ++ W1).Nodup := n G.nd
  have na : a ∉ W1 := nd_apart n' a (by simp)
  have k : Kept [a] H H' := ⟨fun b o hb hn => kp b o hb (by simpa using hn), fun b hb => by
    have : b = a := by simpa using hb
    subst this; exact .inl ⟨_, h⟩⟩
  have hP : ∀ b, P b → b ≠ a := fun b hb z => (G.ap b hb).1 ((m b).mpr (by simp [z]))
  have sr1 : SR K P H' (ρ.set i .un) σ W1 := sr.after (W0 := [a]) k.keep k.mu (fun b hb => by simpa using hP b hb) (fun b hb z => by
    have : b = a := by simpa using z
    subst this; exact na hb)
  have hi : i < (ρ.set i .un).length := by rw [List.length_set]; exact SR.lt hx
  obtain ⟨W2, sr2, m2, n2⟩ := sr1.put (ws := [a]) (t := .ls ys) (v := .ref a) n' hi ⟨a, yv, rfl, ha, rp, rfl⟩
  rw [List.set_set, set_same hv] at sr2
  have sub : ∀ b ∈ W2, b ∈ W := fun b hb => (m b).mpr (m2 b hb)
  exact ⟨W2, ⟨fun b o hb hn => kp b o hb fun z => hn ((m b).mpr (by simp [z])), fun b hb => .inl (sub b hb)⟩, sr2, n2, fun b hb => ⟨fun z => (G.ap b hb).1 (sub b z), let ⟨o, e⟩ := (G.ap b hb).2; ⟨o, kp b o e (hP b hb)⟩⟩⟩
theorem mut_core {K : PySem.W.Frag} {m : MF} {r : V → List V → Hp → VK → Prop} {σ : St} {H : Hp} {Q : VK} (ok : MutOk K m r) (h : tO K (fMut i m fs) σ H Q) :
    ∃ v, σ[i]? = some (some v) ∧ tyV K "list" v H ∧ tAO K fs σ H fun vs H1 => r v vs H1 Q := by
  obtain ⟨P, ρ, W, R, G, q, k⟩ := h
  unfold fMut at q
  split at q
  · rename_i xs0 hx
    obtain ⟨v, ws, hv, a, xv, e, ha, hr, _⟩ := G.sr.read (.inl hx)
    subst e
    refine ⟨_, hv, .inl ⟨rfl, _, SqL.of ha⟩, P, ρ, W, _, G, q, fun vs H1 os ρ1 r1 h1 => ?_⟩
    obtain ⟨ws1, W1, G1, st, nd, rp⟩ := r1.good G
    split at h1
    · rename_i xs hx1
      obtain ⟨v', ws', hv', a', xv', e', ha', hr', _⟩ := G1.sr.read (.inl hx1)
      have e1 : a = a' := by rw [hv] at hv'; injection hv' with z; injection z with z; rw [e'] at z; injection z
      subst e1
      obtain ⟨ts, bt, h2⟩ := withR_ok G1.sr rp h1
      refine ok xs ts a xv' vs H1 Q _ ha' hr' bt h2 fun v2 H2 d ys yv kp hy ry rd hR => ?_
      obtain ⟨W2, st2, G2⟩ := ls_core G1 hx1 hv kp hy ry
      refine k _ _ (.val (.d d)) _ ⟨[], W2, ?_, by simpa using G2.nd, G2.sr, ⟨rd, rfl⟩⟩ hR
      simpa using st.drop.trans (ws := []) (by simpa using st2) (by simpa using G1.nd)
    · exact h1.elim
  · exact q.elim
theorem ve_mut0 {name : Str} {id : String} {m : MF} {r : V → List V → Hp → VK → Prop} {apos cpos : Pos} (sl : PySem.Slot "list" name id) (hty : typeOf (.builtin id) = pure (.type "method_descriptor")) (hm : MtR X id r) (ok : MutOk X.K m r) (ho : PE X a (tVar i))
    (hbase : attributeBase a name X.env (eval a X.env) = eval a X.env := by rfl) (hline : (apos.endLine == cpos.line) = true := by rfl) : VE X (.Call (.Attribute a name apos) [] [] cpos) (fMut i m fNil) :=
  (pe_bm0 PySem.F.plainAttrs_list sl hty hm ho hbase hline).pwi fun σ H Q h => by
    obtain ⟨v, hv, ty, P, ρ, W, R, G, q, k⟩ := mut_core ok h
    exact ⟨v, hv, ty, k _ _ [] _ ⟨[], W, Step.refl _ _, by simpa using G.nd, G.sr, ⟨rfl, rfl⟩⟩ q⟩
theorem ve_mut {name : Str} {id : String} {m : MF} {r : V → List V → Hp → VK → Prop} {apos cpos : Pos} (sl : PySem.Slot "list" name id) (hty : typeOf (.builtin id) = pure (.type "method_descriptor")) (hm : MtR X id r) (ok : MutOk X.K m r) (ho : PE X a (tVar i)) (ha : VA X (e :: es) fs)
    (hbase : attributeBase a name X.env (eval a X.env) = eval a X.env := by rfl)
    (hfew : ((backTo cpos (starEach (e :: es) X.env)).all (fun x => !x.1) && (backToKw cpos (keywordEach [] X.env)).all (fun x => x.1.isSome)
      && decide ((e :: es).length + ([] : List Keyword).length + (if ([] : List Keyword).isEmpty then 0 else 1) < 30)) = true := by rfl)
    (hline : (apos.endLine == cpos.line) = true := by rfl) (hs : starEach (e :: es) X.env = (false, eval e X.env) :: starEach es X.env := by rfl) (hplain : (backTo cpos (starEach es X.env)).any (·.1) = false := by rfl) :
    VE X (.Call (.Attribute a name apos) (e :: es) [] cpos) (fMut i m fs) :=
  (pe_bm PySem.F.plainAttrs_list sl hty hm ho ha hbase hfew hline hs hplain).pwi fun σ H Q h => mut_core ok h
/-- a new list's items frozen: as an operand of an append -/
def fFz (f : TF) : TF := fun ρ Q => f ρ fun o ρ1 => match o with
  | .val (.d x) => Q (.val (.d x)) ρ1
  | .val (.ls xs) => Q (.val (.d (.list xs))) ρ1
  | _ => False
theorem ve_fz (h : VE X e f) : VE X e (fFz f) := by
  refine ⟨fun pins s σ H Q I ⟨P, ρ, W, R, G, q, k⟩ => ?_⟩
  refine thn (h.run pins s σ H (fun v H1 => ∃ o ρ1, Res X.K P H σ W v H1 o ρ1 ∧ (match o with
    | .val (.d x) => R (.val (.d x)) ρ1
    | .val (.ls xs) => R (.val (.d (.list xs))) ρ1
    | _ => False)) I ⟨P, ρ, W, _, G, q, fun v H1 o ρ1 r1 h1 => ⟨o, ρ1, r1, h1⟩⟩) fun u s1 ⟨v, H1, I1, r1, o, ρ1, rs, h1⟩ => ?_
  split at h1
  · exact ⟨v, H1, I1, r1, k _ _ _ _ rs h1⟩
  · rename_i xs
    obtain ⟨ws, W1, st, nd, sr, a, vs, e, ha, hr, ew⟩ := rs
    subst e ew
    obtain ⟨od, I2⟩ := I1.lock ha trivial
    have na : a ∉ W1 := nd_apart nd a (by simp)
    have ap := G.apart st
    have k1 : Kept [a] H1 (upd H1 a (.frz od (.lst vs))) := ⟨fun b o hb hn => by rw [upd_ne (by simpa using hn)]; exact hb, fun b hb => by
      have : b = a := by simpa using hb
      subst this; exact .inl ⟨_, ha⟩⟩
    refine ⟨_, _, I2, r1, k _ _ (.val (.d (.list xs))) _ ⟨[], W1, ⟨fun b o h hb => ?_, fun b hb => st.new b (List.mem_append_right _ hb)⟩, nd_right nd, sr.after (W0 := [a]) k1.keep k1.mu (fun b hb z => (ap b hb).1 (List.mem_append_left _ z)) (fun b hb z => by
      have : b = a := by simpa using z
      subst this; exact na hb), ⟨⟨a, vs, rfl, .inl ⟨od, upd_same⟩, hr.keep k1⟩, rfl⟩⟩ h1⟩
    have hne : b ≠ a := fun z => by
      rcases st.new a (by simp) with y | y
      · exact hb (by rw [z]; exact y)
      · rw [z, y] at h; cases h
    rw [upd_ne hne]
    exact st.keep b o h hb
  · exact h1.elim
/-- x[k] = e, x a list in slot i -/
def sSubL (i : Nat) (fi fe : TF) : SF := fun E ρ => fe ρ fun o ρ1 => match o with
  | .val (.d y) => match ρ1[i]? with
    | some (.own (.ls _)) => fi ρ1 fun o2 ρ2 => match o2 with
      | .val (.d (.int k)) => match ρ2[i]? with
        | some (.own (.ls xs)) => match ixN xs.length k with
          | some j => E.nx (ρ2.set i (.own (.ls (xs.set j y))))
          | none => False
        | _ => False
      | _ => False
    | _ => False
  | _ => False
theorem vs_subL (he : VE X e fe) (ho : PE X a (tVar i)) (hi : VE X b fi) (hs : swapsWithSole [.Subscript a b tpos] e pos.line X.env = pure false := by rfl) (hw : swappedStores [.Subscript a b tpos] e X.env = pure none := by rfl)
    (h1 : (assignEach [.Subscript a b tpos] X.env).map (·.2) = [assign (.Subscript a b tpos) X.env] := by rfl)
    (ha : ∀ v, assign (.Subscript a b tpos) X.env v = (do
      let ov ← holding [v] (eval a X.env)
      let iv ← holding [v, ov] (eval b X.env)
      standAt tpos
      holding [v, ov, iv] (setItem ov iv v)
      release [v, ov, iv] []) := by intro _; rfl) : VS X fx (.Assign [.Subscript a b tpos] e pos) (sSubL i fi fe) :=
  PS.pwi (ps_asg he (pg_sub ho hi set_list ha) hs hw h1) fun D σ H ⟨P, ρ, W, E, G, q, k1, k2, k3, k4, k5⟩ => ⟨P, ρ, W, _, G, q, fun v H1 o ρ1 r1 h1 => by
    split at h1
    · rename_i y
      obtain ⟨ws, W1, G1, st, nd, rv, ew⟩ := r1.good G
      subst ew
      have hsl : ∃ xs0, ρ1[i]? = some (.own (.ls xs0)) := by
        split at h1
        · rename_i xs0 hx0; exact ⟨xs0, hx0⟩
        · exact h1.elim
      obtain ⟨xs0, hx0⟩ := hsl
      rw [hx0] at h1
      dsimp only at h1
      obtain ⟨av, _, hav, _⟩ := G1.sr.read (.inl hx0)
      refine ⟨av, hav, P, ρ1, W1, _, G1, h1, fun iv H2 o2 ρ2 r2 h2 => ?_⟩
      obtain ⟨ws2, W2, G2, st2, nd2, rp2⟩ := r2.good G1
      split at h2
      · rename_i k
        obtain ⟨ri, ew2⟩ := rp2
        have ri : iv = .int k := ri
        subst ri ew2
        split at h2
        · rename_i xs hx
          split at h2
          · rename_i j hj
            obtain ⟨v', ws', hv', a', xv, e', ha', hr', _⟩ := G2.sr.read (.inl hx)
            have e1 : av = .ref a' := by rw [hav] at hv'; injection hv' with z; injection z with z; rw [z, e']
            subst e1
            have rv2 : RepD X.K H2 y v := rv.keep ⟨by simpa using st2.keep, G1.mut⟩
            have kp : Kept [a'] H2 (upd H2 a' (.lst (xv.set j v))) := ⟨fun b o hb hn => by rw [upd_ne (by simpa using hn)]; exact hb, fun b hb => by
              have : b = a' := by simpa using hb
              subst this; exact .inl ⟨_, ha'⟩⟩
            refine ⟨a', xv, k, j, rfl, rfl, ha', by rw [hr'.length]; exact hj, ?_⟩
            obtain ⟨W3, st3, G3⟩ := ls_core (ys := xs.set j y) G2 hx hav (fun b o hb hn => by rw [upd_ne hn]; exact hb) upd_same ((hr'.set j rv2).keep kp)
            refine k1 _ _ _ ⟨W3, ?_, G3, .refl⟩ h2
            have s12 : Step W W2 H H2 := by simpa using st.trans (ws := []) (W1 := W1) (by simpa using st2) (by simpa using G1.nd)
            simpa using s12.trans (ws := []) (by simpa using st3) (by simpa using G2.nd)
          · exact h2.elim
        · exact h2.elim
      · exact h2.elim
    · exact h1.elim⟩
/-- x op= e, x an int -/
def sAugI (i : Nat) (op : Int → Int → (Int → Prop) → Prop) (f : TF) : SF := fun E ρ => match ρ[i]? with
  | some (.own (.d (.int j))) => f ρ fun o ρ1 => match o with
    | .val (.d (.int k)) => op j k fun z => E.nx (ρ1.set i (.own (.d (.int z))))
    | _ => False
  | _ => False
theorem vs_augI {x : Str} {op : Operator} {ti : TIp} {o : Int → Int → (Int → Prop) → Prop} {pos' : Pos} (hN : X.N.Nodup) (hx : X.N[i]? = some x) (hl : Loc X.env.scope x) (he : VE X e f) (ho : PIp X op ti)
    (ok : ∀ j k H (Q : VK) (R : Int → Prop), o j k R → (∀ z, R z → Q (.int z) H) → ti (.int j) (.int k) H Q) (hf : i ∉ fx) (hfn : X.fn x = true ∨ X.env.scope.names.lookup x = some .local := by first | exact .inl rfl | exact .inr rfl | assumption) :
    VS X fx (.AugAssign (.Name x pos') op e pos) (sAugI i o f) := PS.pwI (ps_aug hN hx hl he ho hfn) fun pins s D σ H I ⟨P, ρ, W, E, G, q, k1, k2, k3, k4, k5⟩ => by
  unfold sAugI at q
  split at q
  · rename_i j hj
    obtain ⟨v, ws, hv, hr, _⟩ := G.sr.read (.inl hj)
    have hr : v = .int j := hr
    subst hr
    refine ⟨_, hv, P, ρ, W, _, G, q, fun y H1 o ρ1 r1 h1 => ?_⟩
    obtain ⟨ws1, W1, G1, st, nd, rp⟩ := r1.good G
    split at h1
    · rename_i k
      have ry : y = .int k := rp.1
      subst ry
      have hi : i < σ.length := (List.getElem?_eq_some_iff.mp hv).1
      refine ok j k H1 _ _ h1 fun z hz => k1 _ _ _ (put_core (ws := []) (W1 := W1) (t := .d (.int z)) (by simpa using G1.ap) (by simpa using st.drop) (by simpa using G1.nd) G1.sr ⟨rfl, rfl⟩ hi hf .refl) hz
    · exact h1.elim
  · exact q.elim

/-! ### defs -/
theorem hid_put {K : PySem.W.Frag} {P : Addr → Prop} {H : Hp} {t : T} {v : V} {w : List Addr} : ∀ {ρ : List Slot} {σ : St} {W : List Addr} {i : Nat}, SR K P H (ρ.set i .un) σ W → i < ρ.length → σ[i]? = some (some v) → RepT K H t v w → (∀ b ∈ w, P b) → SR K P H (ρ.set i (.hid t)) σ W
  | [], _, _, _, _, h, _, _, _ => by simp at h
  | _ :: ρ, _, W, 0, ⟨o, r, e, h⟩, _, hv, hr, hp => by
    subst e
    have : o = some v := by simpa using hv
    subst this
    exact ⟨v, r, w, rfl, hr, hp, h⟩
  | .un :: ρ, _, W, i + 1, ⟨o, r, e, h⟩, hi, hv, hr, hp => by
    subst e
    exact ⟨o, r, rfl, hid_put h (by simpa using hi) (by simpa using hv) hr hp⟩
  | .own _ :: ρ, _, W, i + 1, ⟨v0, r, w1, w2, e, q, h, ew⟩, hi, hv, hr, hp => by
    subst e
    exact ⟨v0, r, w1, w2, rfl, q, hid_put h (by simpa using hi) (by simpa using hv) hr hp, ew⟩
  | .hid _ :: ρ, _, W, i + 1, ⟨v0, r, w1, e, q, hq, h⟩, hi, hv, hr, hp => by
    subst e
    exact ⟨v0, r, w1, rfl, q, hq, hid_put h (by simpa using hi) (by simpa using hv) hr hp⟩
/-- the parameters' trees; the answer and the parameters' trees behind it -/
abbrev FS := List Slot → (T → List Slot → Prop) → Prop
def spO (K : PySem.W.Frag) (n : Nat) (S : FS) : Sp := fun vs H Q _ => vs.length = n ∧ ∃ P ss W R, Good K P H ss (vs.map some) W ∧ S ss R ∧
  ∀ r H' t fin ws W', Step W (ws ++ W') H H' → (ws ++ W').Nodup → SR K P H' fin (vs.map some) W' → RepT K H' t r ws → R t fin → Q r H'
/-- how operands go to parameters: by value, or lent -/
inductive Md where
  | v | l
def pass : List Md → List Opv → List Slot → (List Slot → List Slot → (List Slot → List Slot → List Slot) → Prop) → Prop
  | [], [], ρ, k => k [] ρ fun _ ρ1 => ρ1
  | .v :: ms, .val t :: os, ρ, k => pass ms os ρ fun ss ρ1 bk => k (.own t :: ss) ρ1 fun fin ρ2 => bk fin.tail ρ2
  | .l :: ms, .slot i :: os, ρ, k => match ρ[i]? with
    | some (.own t) => pass ms os (ρ.set i .un) fun ss ρ1 bk => k (.own t :: ss) ρ1 fun fin ρ2 => (bk fin.tail ρ2).set i (fin.headD .un)
    | _ => False
  | _, _, _, _ => False
theorem pass_ok {K : PySem.W.Frag} {P : Addr → Prop} {H : Hp} {σ : St} : ∀ {ms : List Md} {os : List Opv} {vs : List V} {ws : List Addr} {ρ : List Slot} {W : List Addr} {k : List Slot → List Slot → (List Slot → List Slot → List Slot) → Prop},
    SR K P H ρ σ W → RepOs K H σ os vs ws → (ws ++ W).Nodup → pass ms os ρ k → ∃ ss ρ1 bk Wc Wr, k ss ρ1 bk ∧ SR K P H ss (vs.map some) Wc ∧ SR K P H ρ1 σ Wr ∧ (Wc ++ Wr).Nodup ∧ (∀ b ∈ Wc ++ Wr, b ∈ ws ++ W) ∧
      ∀ fin H' Wf Wr', SR K P H' fin (vs.map some) Wf → SR K P H' ρ1 σ Wr' → (Wf ++ Wr').Nodup → ∃ W2, SR K P H' (bk fin ρ1) σ W2 ∧ W2.Nodup ∧ ∀ b ∈ W2, b ∈ Wf ++ Wr'
  | [], [], vs, ws, ρ, W, k, sr, rp, nd, q => by
    obtain ⟨e, ew⟩ := rp
    subst e ew
    exact ⟨[], ρ, _, [], W, q, ⟨rfl, rfl⟩, sr, by simpa using nd, fun b hb => by simpa using hb, fun fin H' Wf Wr' _ h n => ⟨Wr', h, nd_right n, fun b hb => List.mem_append_right _ hb⟩⟩
  | .v :: ms, .val t :: os, vs, ws, ρ, W, k, sr, rp, nd, q => by
    obtain ⟨v, r, w1, w2, e, hv, hr, ew⟩ := rp
    subst e ew
    have nd' : (w1 ++ (w2 ++ W)).Nodup := by rw [← List.append_assoc]; exact nd
    obtain ⟨ss, ρ1, bk, Wc, Wr, hk, s1, s2, n1, m1, back⟩ := pass_ok (ms := ms) (os := os) sr hr (nd_right nd') q
    have sub : ∀ b ∈ Wc ++ Wr, b ∈ w2 ++ W := m1
    refine ⟨.own t :: ss, ρ1, _, w1 ++ Wc, Wr, hk, ⟨v, r.map some, w1, Wc, rfl, hv, s1, rfl⟩, s2, ?_, fun b hb => ?_, fun fin H' Wf Wr' hf hr' n => ?_⟩
    · rw [List.append_assoc]
      exact nd_mk (nd_left nd') n1 fun x hx hy => nd_apart nd' x hx (sub x hy)
    · rw [List.append_assoc] at hb
      rw [List.append_assoc]
      rcases List.mem_append.mp hb with z | z
      · exact List.mem_append_left _ z
      · exact List.mem_append_right _ (sub b z)
    · have tl : ∃ Wt, SR K P H' fin.tail (r.map some) Wt ∧ Wt.Sublist Wf := by
        match fin, hf with
        | .un :: fin, ⟨o, r', e, h⟩ => injection e with _ e; subst e; exact ⟨Wf, h, List.Sublist.refl _⟩
        | .own u :: fin, ⟨v', r', a1, a2, e, _, h, ew⟩ => injection e with _ e; subst e; exact ⟨a2, h, by rw [ew]; exact List.sublist_append_right _ _⟩
        | .hid u :: fin, ⟨v', r', a1, e, _, _, h⟩ => injection e with _ e; subst e; exact ⟨Wf, h, List.Sublist.refl _⟩
      obtain ⟨Wt, ht, st⟩ := tl
      obtain ⟨W2, g, n2, m2⟩ := back fin.tail H' Wt Wr' ht hr' (n.sublist (List.Sublist.append st (List.Sublist.refl _)))
      exact ⟨W2, g, n2, fun b hb => (List.Sublist.append st (List.Sublist.refl _)).subset (m2 b hb)⟩
  | .l :: ms, .slot i :: os, vs, ws, ρ, W, k, sr, rp, nd, q => by
    obtain ⟨v, r, w1, w2, e, ⟨hv, e1⟩, hr, ew⟩ := rp
    subst e e1
    obtain rfl : ws = w2 := by simpa using ew
    unfold pass at q
    split at q
    · rename_i t hx
      obtain ⟨v', wi, W1, hv', hrt, sr1, m, n⟩ := sr.pull hx
      have ev : v = v' := by rw [hv] at hv'; injection hv' with z; injection z
      subst ev
      have nd0 : (ws ++ W).Nodup := by simpa using nd
      have n1 := n (nd_right nd0)
      have d1 : ∀ x ∈ ws, x ∉ wi ++ W1 := fun x hx hy => nd_apart nd0 x hx ((m x).mpr hy)
      obtain ⟨ss, ρ1, bk, Wc, Wr, hk, s1, s2, n2, m1, back⟩ := pass_ok (ms := ms) (os := os) sr1 hr (nd_mk (nd_left nd0) (nd_right n1) fun x hx hy => d1 x hx (List.mem_append_right _ hy)) q
      refine ⟨.own t :: ss, ρ1, _, wi ++ Wc, Wr, hk, ⟨v, r.map some, wi, Wc, rfl, hrt, s1, rfl⟩, s2, ?_, fun b hb => ?_, fun fin H' Wf Wr' hf hr' nf => ?_⟩
      · rw [List.append_assoc]
        refine nd_mk (nd_left n1) n2 fun x hx hy => ?_
        rcases List.mem_append.mp (m1 x hy) with z | z
        · exact d1 x z (List.mem_append_left _ hx)
        · exact nd_apart n1 x hx z
      · rw [List.append_assoc] at hb
        rcases List.mem_append.mp hb with z | z
        · simpa using Or.inr ((m b).mpr (List.mem_append_left _ z))
        · rcases List.mem_append.mp (m1 b z) with z | z
          · simpa using Or.inl z
          · simpa using Or.inr ((m b).mpr (List.mem_append_right _ z))
      · match fin, hf with
        | .un :: fin, ⟨o, r', e, h⟩ =>
          injection e with _ e; subst e
          obtain ⟨W2, g, n3, m3⟩ := back fin H' Wf Wr' h hr' nf
          obtain ⟨W3, g3, m4⟩ := g.kill i
          exact ⟨W3, g3, n3.sublist m4, fun b hb => m3 b (m4.subset hb)⟩
        | .own u :: fin, ⟨v', r', a1, a2, e, hu, h, ew⟩ =>
          injection e with e0 e; subst e
          injection e0 with e0
          subst e0 ew
          have nf' : (a1 ++ (a2 ++ Wr')).Nodup := by rw [← List.append_assoc]; exact nf
          obtain ⟨W2, g, n3, m3⟩ := back fin H' a2 Wr' h hr' (nd_right nf')
          have hi : i < (bk fin ρ1).length := by rw [← g.len]; exact (List.getElem?_eq_some_iff.mp hv).1
          obtain ⟨W3, g3, m4, n4⟩ := g.put (ws := a1) (t := u) (v := v) (nd_mk (nd_left nf') n3 fun x hx hy => nd_apart nf' x hx (m3 x hy)) hi hu
          rw [set_same hv] at g3
          refine ⟨W3, g3, n4, fun b hb => ?_⟩
          rw [List.append_assoc]
          rcases List.mem_append.mp (m4 b hb) with z | z
          · exact List.mem_append_left _ z
          · exact List.mem_append_right _ (m3 b z)
        | .hid u :: fin, ⟨v', r', a1, e, hu, hp, h⟩ =>
          injection e with e0 e; subst e
          injection e0 with e0
          subst e0
          obtain ⟨W2, g, n3, m3⟩ := back fin H' Wf Wr' h hr' nf
          have hi : i < (bk fin ρ1).length := by rw [← g.len]; exact (List.getElem?_eq_some_iff.mp hv).1
          obtain ⟨W3, g3, s3⟩ := g.kill i
          exact ⟨W3, hid_put g3 hi hv hu hp, n3.sublist s3, fun b hb => m3 b (s3.subset hb)⟩
    · exact q.elim
  | [], _ :: _, _, _, _, _, _, _, _, _, q => (show False from q).elim
  | .v :: _, [], _, _, _, _, _, _, _, _, q => (show False from q).elim
  | .l :: _, [], _, _, _, _, _, _, _, _, q => (show False from q).elim
  | .v :: _, .slot _ :: _, _, _, _, _, _, _, _, _, q => (show False from q).elim
  | .l :: _, .val _ :: _, _, _, _, _, _, _, _, _, q => (show False from q).elim
def fCall (S : FS) (ms : List Md) (dfs : List D) (fs : TAF) : TF := fun ρ Q => fs ρ fun os ρ1 => pass ms os ρ1 fun ss ρ2 bk => S (ss ++ dfs.map fun x => Slot.own (.d x)) fun t fin => Q (.val t) (bk (fin.take ms.length) ρ2)
theorem SR.app {K : PySem.W.Frag} {P : Addr → Prop} {H : Hp} {ds : List D} {dvs : List V} (rd : RepDs K H ds dvs) : ∀ {ss : List Slot} {σ : St} {W : List Addr}, SR K P H ss σ W → SR K P H (ss ++ ds.map fun x => Slot.own (.d x)) (σ ++ dvs.map some) W
  | [], _, _, ⟨e, ew⟩ => by
    subst e ew
    have go : ∀ {ds : List D} {dvs : List V}, RepDs K H ds dvs → SR K P H (ds.map fun x => Slot.own (.d x)) (dvs.map some) [] := by
      intro ds
      induction ds with
      | nil => intro dvs h; have h : dvs = [] := h; subst h; exact ⟨rfl, rfl⟩
      | cons x xs ih =>
        rintro dvs ⟨v, r, rfl, h, t⟩
        exact ⟨v, r.map some, [], [], rfl, ⟨h, rfl⟩, ih t, rfl⟩
    simpa using go rd
  | .un :: _, _, _, ⟨o, r, e, h⟩ => ⟨o, r ++ dvs.map some, by rw [e]; rfl, SR.app rd h⟩
  | .own t :: _, _, _, ⟨v, r, w1, w2, e, q, h, ew⟩ => ⟨v, r ++ dvs.map some, w1, w2, by rw [e]; rfl, q, SR.app rd h, ew⟩
  | .hid t :: _, _, _, ⟨v, r, w, e, q, hn, h⟩ => ⟨v, r ++ dvs.map some, w, by rw [e]; rfl, q, hn, SR.app rd h⟩
/-- the first parameters' part -/
theorem SR.front {K : PySem.W.Frag} {P : Addr → Prop} {H : Hp} : ∀ {n : Nat} {fin : List Slot} {σ : St} {W : List Addr}, SR K P H fin σ W → ∃ W1, SR K P H (fin.take n) (σ.take n) W1 ∧ W1.Sublist W
  | 0, fin, σ, W, _ => ⟨[], by simp [SR], List.nil_sublist _⟩
  | n + 1, [], σ, W, ⟨e, ew⟩ => by subst e ew; exact ⟨[], by simp [SR], List.Sublist.refl _⟩
  | n + 1, .un :: fin, σ, W, ⟨o, r, e, h⟩ => by
    subst e
    obtain ⟨W1, g, s⟩ := SR.front (n := n) h
    exact ⟨W1, ⟨o, r.take n, rfl, g⟩, s⟩
  | n + 1, .own t :: fin, σ, W, ⟨v, r, w1, w2, e, q, h, ew⟩ => by
    subst e ew
    obtain ⟨W1, g, s⟩ := SR.front (n := n) h
    exact ⟨w1 ++ W1, ⟨v, r.take n, w1, W1, rfl, q, g, rfl⟩, List.Sublist.append (List.Sublist.refl _) s⟩
  | n + 1, .hid t :: fin, σ, W, ⟨v, r, w, e, q, hn, h⟩ => by
    subst e
    obtain ⟨W1, g, s⟩ := SR.front (n := n) h
    exact ⟨W1, ⟨v, r.take n, w, rfl, q, hn, g⟩, s⟩
theorem pass_len {ms : List Md} : ∀ {os : List Opv} {ρ : List Slot} {k : List Slot → List Slot → (List Slot → List Slot → List Slot) → Prop}, pass ms os ρ k → os.length = ms.length := by
  induction ms with
  | nil =>
    intro os ρ k h
    cases os with
    | nil => rfl
    | cons o os => exact (show False from h).elim
  | cons m ms ih =>
    intro os ρ k h
    cases os with
    | nil => cases m <;> exact (show False from h).elim
    | cons o os =>
      cases m with
      | v =>
        cases o with
        | val t => rw [List.length_cons, List.length_cons, ih (show pass ms os ρ _ from h)]
        | slot i => exact (show False from h).elim
      | l =>
        cases o with
        | val t => exact (show False from h).elim
        | slot i =>
          unfold pass at h
          split at h
          · rw [List.length_cons, List.length_cons, ih h]
          · exact h.elim
theorem RepOs.length {K : PySem.W.Frag} {H : Hp} {σ : St} : ∀ {os : List Opv} {vs : List V} {ws : List Addr}, RepOs K H σ os vs ws → vs.length = os.length
  | [], _, _, h => by rw [h.1]; rfl
  | _ :: _, _, _, ⟨v, r, w1, w2, e, _, h, _⟩ => by rw [e, List.length_cons, List.length_cons, RepOs.length h]
theorem call_core {K : PySem.W.Frag} {S : FS} {ms : List Md} {ds : List D} {dvs : List V} {n : Nat} {E : XK} {σ : St} {H : Hp} {Q : VK} (rd : ∀ H, RepDs K H ds dvs) (hn : ms.length + ds.length = n) (h : tO K (fCall S ms ds fs) σ H Q) : tCall (spO K n S) dvs E (tAO K fs) σ H Q := by
  obtain ⟨P, ρ, W, R, G, q, k⟩ := h
  refine ⟨P, ρ, W, _, G, q, fun vs H1 os ρ1 r1 h1 => ?_⟩
  obtain ⟨ws, W1, G1, st, nd, rp⟩ := r1.good G
  have ap := G.apart st
  obtain ⟨ss, ρ2, bk, Wc, Wr, hk, s1, s2, n1, m1, back⟩ := pass_ok G1.sr rp nd h1
  have hvs : vs.length = ms.length := by rw [rp.length, pass_len h1]
  have hds : dvs.length = ds.length := (rd H).length
  refine ⟨by rw [List.length_append, hvs, hds]; exact hn, P, _, Wc, _, ⟨by rw [List.map_append]; exact SR.app (rd H1) s1, nd_left n1, fun b hb => ⟨fun z => (ap b hb).1 (m1 b (List.mem_append_left _ z)), (ap b hb).2⟩⟩, hk, fun r H2 t fin ws2 W2 st2 nd2 sr2 rp2 hR => ?_⟩
  have muC : ∀ b ∈ Wc, MutO H1 b := s1.mut
  have muR : ∀ b ∈ Wr, MutO H1 b := s2.mut
  -- the caller's rest
  have rest : SR K P H2 ρ2 σ Wr := s2.after (W0 := Wc) st2.keep muC (fun b hb z => (ap b hb).1 (m1 b (List.mem_append_left _ z))) fun b hb z => nd_apart n1 b z hb
  obtain ⟨Wf, sf, sub⟩ := SR.front (n := vs.length) sr2
  have ef : (List.map some (vs ++ dvs)).take vs.length = vs.map some := by
    rw [List.map_append, List.take_append_of_le_length (by simp)]
    rw [List.take_of_length_le (by simp)]
  rw [ef] at sf
  have apart2 : ∀ b ∈ ws2 ++ W2, b ∉ Wr := fun b hb hr => by
    rcases st2.new b hb with z | z
    · exact nd_apart n1 b z hr
    · obtain ⟨o, e⟩ := (muR b hr).there
      rw [z] at e; cases e
  have nf : (Wf ++ Wr).Nodup := nd_mk ((nd_right nd2).sublist sub) (nd_right n1) fun b hb => apart2 b (List.mem_append_right _ (sub.subset hb))
  obtain ⟨W3, s3, n3, m3⟩ := back (fin.take vs.length) H2 Wf Wr sf rest nf
  rw [hvs] at s3
  refine k _ _ (.val t) _ ⟨ws2, W3, ⟨fun b o h hb => ?_, fun b hb => ?_⟩, nd_mk (nd_left nd2) n3 fun b hb hz => ?_, s3, rp2⟩ hR
  · have hb1 : b ∉ ws ++ W1 := fun z => by
      rcases st.new b z with z | z
      · exact hb z
      · rw [h] at z; cases z
    exact st2.keep b o (st.keep b o h hb) fun z => hb1 (m1 b (List.mem_append_left _ z))
  · have toW : b ∈ Wc ++ Wr ∨ H1 b = none := by
      rcases List.mem_append.mp hb with z | z
      · exact (st2.new b (List.mem_append_left _ z)).imp_left (List.mem_append_left _)
      · rcases List.mem_append.mp (m3 b z) with z | z
        · exact (st2.new b (List.mem_append_right _ (sub.subset z))).imp_left (List.mem_append_left _)
        · exact .inl (List.mem_append_right _ z)
    rcases toW with z | z
    · exact st.new b (m1 b z)
    · by_cases hw : b ∈ W
      · exact .inl hw
      · refine .inr ?_
        cases q : H b with
        | none => rfl
        | some o => rw [st.keep b o q hw] at z; cases z
  · rcases List.mem_append.mp (m3 b hz) with z | z
    · exact nd_apart nd2 b hb (sub.subset z)
    · exact apart2 b (List.mem_append_left _ hb) z
theorem ve_call {S : FS} {ms : List Md} {ds : List D} {dvs : List V} {n k : Nat} {x : Str} {p : Pos} {fa : Addr} {fd : FuncData} {ps : List Str} {dV : List Value} (F : FnOk X.prog X.w X.K X.mg X.base CX0 k fa fd ps (spO X.K n S)) (hr : Room k X.A) (hg : Gl X x) (hm : X.mg x = some (.ref fa)) (hk : PySem.W.keepIn X.K (.ref fa) = true) (hb : Binds X.K fd ps dV) (hd : Vals dvs dV)
    (rd : ∀ H, RepDs X.K H ds dvs) (hn : ms.length + ds.length = n) (ha : VA X (e :: es) fs) (hdb : (x == ("__debug__" : Str)) = false := by decide) (he : starEach (e :: es) X.env = (false, eval e X.env) :: starEach es X.env := by rfl) (hpl : (backTo pos (starEach es X.env)).any (·.1) = false := by rfl) :
    VE X (.Call (.Name x p) (e :: es) [] pos) (fCall S ms ds fs) :=
  (pe_call F hr hg hm hk hb hd (pass0 (X := X)) ha hdb he hpl).pwi fun σ H Q h => call_core rd hn h
theorem ve_call0 {S : FS} {ds : List D} {dvs : List V} {n k : Nat} {x : Str} {p : Pos} {fa : Addr} {fd : FuncData} {ps : List Str} {dV : List Value} (F : FnOk X.prog X.w X.K X.mg X.base CX0 k fa fd ps (spO X.K n S)) (hr : Room k X.A) (hg : Gl X x) (hm : X.mg x = some (.ref fa)) (hk : PySem.W.keepIn X.K (.ref fa) = true) (hb : Binds X.K fd ps dV) (hd : Vals dvs dV)
    (rd : ∀ H, RepDs X.K H ds dvs) (hn : ds.length = n) (hdb : (x == ("__debug__" : Str)) = false := by decide) :
    VE X (.Call (.Name x p) [] [] pos) (fCall S [] ds fNil) :=
  (pe_call0 F hr hg hm hk hb hd (pass0 (X := X)) hdb).pwi fun σ H Q h => by
    obtain ⟨P, ρ, W, R, G, q, k⟩ := call_core (ms := []) (E := E0) rd (by simpa using hn) h
    exact k _ _ [] _ ⟨[], W, Step.refl _ _, by simpa using G.nd, G.sr, ⟨rfl, rfl⟩⟩ q
end

/-! ### a def's rule -/
/-- the parameters' trees at the end: those at fx -/
def finS (fx : List Nat) (n : Nat) (ρ : List Slot) : List Slot := (List.range n).map fun i => if i ∈ fx then ρ.getD i .un else .un
theorem SR.pick {K : PySem.W.Frag} {P : Addr → Prop} {H : Hp} : ∀ {ρ : List Slot} {σ : St} {W : List Addr} (keep : List Bool) {τ : St}, SR K P H ρ σ W → keep.length ≤ ρ.length → τ.length = keep.length → (∀ i : Nat, keep[i]? = some true → τ[i]? = σ[i]?) →
    ∃ W1, SR K P H ((keep.zip ρ).map fun p => if p.1 = true then p.2 else Slot.un) τ W1 ∧ W1.Sublist W
  | ρ, σ, W, [], τ, _, _, ht, _ => ⟨[], by rw [List.eq_nil_of_length_eq_zero ht]; exact ⟨rfl, rfl⟩, List.nil_sublist _⟩
  | [], _, _, _ :: _, _, _, hl, _, _ => by simp at hl
  | s :: ρ, σ, W, b :: keep, τ, sr, hl, ht, hi => by
    match τ, ht with
    | o :: τ, ht =>
      have hl' : keep.length ≤ ρ.length := by simpa using hl
      have ht' : τ.length = keep.length := by simpa using ht
      cases b with
      | false =>
        have rec1 : ∀ {σ' : St} {W' : List Addr}, SR K P H ρ σ' W' → (∀ i : Nat, keep[i]? = some true → τ[i]? = σ'[i]?) → ∃ W1, SR K P H ((keep.zip ρ).map fun p => if p.1 = true then p.2 else Slot.un) τ W1 ∧ W1.Sublist W' := fun h h2 => SR.pick keep h hl' ht' h2
        cases s with
        | un =>
          obtain ⟨o', r, e, h⟩ := sr
          subst e
          obtain ⟨W1, g, sb⟩ := rec1 h fun i hk => by simpa using hi (i + 1) (by simpa using hk)
          exact ⟨W1, ⟨o, τ, rfl, g⟩, sb⟩
        | own t =>
          obtain ⟨v, r, w1, w2, e, q, h, ew⟩ := sr
          subst e ew
          obtain ⟨W1, g, sb⟩ := rec1 h fun i hk => by simpa using hi (i + 1) (by simpa using hk)
          exact ⟨W1, ⟨o, τ, rfl, g⟩, sb.trans (List.sublist_append_right _ _)⟩
        | hid t =>
          obtain ⟨v, r, w, e, q, hn, h⟩ := sr
          subst e
          obtain ⟨W1, g, sb⟩ := rec1 h fun i hk => by simpa using hi (i + 1) (by simpa using hk)
          exact ⟨W1, ⟨o, τ, rfl, g⟩, sb⟩
      | true =>
        have h0 := hi 0 rfl
        cases s with
        | un =>
          obtain ⟨o', r, e, h⟩ := sr
          subst e
          obtain ⟨W1, g, sb⟩ := SR.pick keep h hl' ht' fun i hk => by simpa using hi (i + 1) (by simpa using hk)
          exact ⟨W1, ⟨o, τ, rfl, g⟩, sb⟩
        | own t =>
          obtain ⟨v, r, w1, w2, e, q, h, ew⟩ := sr
          subst e ew
          obtain ⟨W1, g, sb⟩ := SR.pick keep h hl' ht' fun i hk => by simpa using hi (i + 1) (by simpa using hk)
          have : o = some v := by simpa using h0
          subst this
          exact ⟨w1 ++ W1, ⟨v, τ, w1, W1, rfl, q, g, rfl⟩, List.Sublist.append (List.Sublist.refl _) sb⟩
        | hid t =>
          obtain ⟨v, r, w, e, q, hn, h⟩ := sr
          subst e
          obtain ⟨W1, g, sb⟩ := SR.pick keep h hl' ht' fun i hk => by simpa using hi (i + 1) (by simpa using hk)
          have : o = some v := by simpa using h0
          subst this
          exact ⟨W1, ⟨v, τ, w, rfl, q, hn, g⟩, sb⟩
theorem SR.fin {K : PySem.W.Frag} {P : Addr → Prop} {H : Hp} {fx : List Nat} {n : Nat} {ρ : List Slot} {σ τ : St} {W : List Addr} (sr : SR K P H ρ σ W) (hn : n ≤ ρ.length) (ht : τ.length = n) (hi : ∀ i ∈ fx, i < n → τ[i]? = σ[i]?) : ∃ W1, SR K P H (finS fx n ρ) τ W1 ∧ W1.Sublist W := by
  have hlen : ((List.range n).map fun i => decide (i ∈ fx)).length = n := by simp
  obtain ⟨W1, g, sb⟩ := sr.pick ((List.range n).map fun i => decide (i ∈ fx)) (τ := τ) (by rw [hlen]; exact hn) (by rw [hlen]; exact ht) fun i hk => by
    rw [List.getElem?_map] at hk
    by_cases hlt : i < n
    · rw [List.getElem?_range hlt] at hk
      have : i ∈ fx := by simpa using hk
      exact hi i this hlt
    · rw [List.getElem?_eq_none (by simpa using hlt)] at hk
      cases hk
  refine ⟨W1, ?_, sb⟩
  have e : (((List.range n).map fun i => decide (i ∈ fx)).zip ρ).map (fun p => if p.1 = true then p.2 else Slot.un) = finS fx n ρ := by
    refine List.ext_getElem? fun i => ?_
    unfold finS
    by_cases hlt : i < n
    · have hr : i < ρ.length := by omega
      have hz : (((List.range n).map fun i => decide (i ∈ fx)).zip ρ)[i]? = some (decide (i ∈ fx), ρ[i]) := List.getElem?_zip_eq_some.mpr ⟨by rw [List.getElem?_map, List.getElem?_range hlt]; rfl, List.getElem?_eq_getElem hr⟩
      rw [List.getElem?_map, hz, List.getElem?_map, List.getElem?_range hlt]
      simp only [Option.map_some, decide_eq_true_eq]
      rw [List.getD_eq_getElem?_getD, List.getElem?_eq_getElem hr]
      rfl
    · rw [List.getElem?_eq_none (by simp; omega), List.getElem?_eq_none (by simp; omega)]
  rw [← e]
  exact g
section
variable {Pg : Program} {w : World} {K : PySem.W.Frag} {mg : Str → Option Value} {base : Heap}
theorem fn_ok {x qual : Str} {st : Stmt} {f : Addr} {fd : FuncData} {N ps : List Str} {k n : Nat} {S : FS} {sf : SF} {fx : List Nat} (F : Fun K x qual st f fd) (sc : FnScope N ps (defScope st)) (hn : ps.length = n)
    (hb : ∀ (cdv : Value) (A : Around) (outer : List Env) (s : Shared) (H : Hp) (E : XK), Room k (A.deeper (envOfC qual (defScope st) s.heap.objs.size f cdv)) → VSs (cxOf CX0 Pg w K mg base N qual (defScope st) f cdv A outer s H E).nox fx (defBody st) sf)
    (hS : ∀ ss R, ss.length = n → S ss R → sf { nx := fun ρ => R (.d .none) (finS fx n ρ), rt := fun t ρ => R t (finS fx n ρ) } (ss ++ List.replicate (N.length - n) .un)) : FnOk Pg w K mg base CX0 (k + 1) f fd ps (spO K n S) := by
  refine F.ok sc (fun vs H Q E h => by rw [h.1, hn]) (fun cdv A outer s H vs Q E hr h => ?_)
  obtain ⟨hl, P, ss, W, R, G, hSS, kR⟩ := h
  refine ⟨_, hb cdv A outer s H E hr, ?_⟩
  have hpl : ps.length ≤ N.length := by have := congrArg List.length sc.pre; rw [List.length_take] at this; omega
  have hss : ss.length = n := by rw [← G.sr.len, List.length_map]; exact hl
  have G0 : Good K P H (ss ++ List.replicate (N.length - n) .un) (L2.start N vs) W := by
    have go : ∀ {ss : List Slot} {σ : St} {W : List Addr} (m : Nat), SR K P H ss σ W → SR K P H (ss ++ List.replicate m .un) (σ ++ List.replicate m none) W := by
      intro ss
      induction ss with
      | nil =>
        rintro σ W m ⟨rfl, rfl⟩
        induction m with
        | zero => exact ⟨rfl, rfl⟩
        | succ m ih => exact ⟨none, _, rfl, ih⟩
      | cons s ss ih =>
        intro σ W m h
        cases s with
        | un => obtain ⟨o, r, rfl, h⟩ := h; exact ⟨o, _, rfl, ih m h⟩
        | own t => obtain ⟨v, r, w1, w2, rfl, q, h, rfl⟩ := h; exact ⟨v, _, w1, w2, rfl, q, ih m h, rfl⟩
        | hid t => obtain ⟨v, r, w, rfl, q, hn, h⟩ := h; exact ⟨v, _, w, rfl, q, hn, ih m h⟩
    refine ⟨?_, G.nd, G.ap⟩
    unfold L2.start
    rw [hl]
    exact go _ G.sr
  have hstart : (L2.start N vs).length = N.length := by
    unfold L2.start
    rw [List.length_append, List.length_map, List.length_replicate]
    omega
  have fin : ∀ {σ' : St} {H' : Hp} {ρ' : List Slot} {W' : List Addr}, SR K P H' ρ' σ' W' → Fx fx (L2.start N vs) σ' → ∃ W1, SR K P H' (finS fx n ρ') (vs.map some) W1 ∧ W1.Sublist W' := fun {σ' H' ρ' W'} sr hx => by
    refine sr.fin (by rw [← sr.len, hx.2, hstart]; omega) (by simpa using hl) fun i hi hlt => ?_
    rw [hx.1 i hi]
    unfold L2.start
    rw [List.getElem?_append_left (by simpa [hl] using hlt)]
  refine ⟨P, _, W, _, G0, hS ss R hss hSS, fun σ' H' ρ' r hR => ?_, fun v H' t ρ' r hR => ?_, fun _ _ _ _ h => h.elim, fun _ _ _ _ h => h.elim, fun _ _ _ _ _ h => h.elim⟩
  · obtain ⟨W', st, G', hx⟩ := r
    obtain ⟨W1, s1, sb⟩ := fin G'.sr hx
    exact kR .non H' (.d .none) _ [] W1 ⟨st.keep, fun b hb => st.new b (sb.subset (by simpa using hb))⟩ (by simpa using G'.nd.sublist sb) s1 ⟨rfl, rfl⟩ hR
  · obtain ⟨ws, W', σ', st, nd, sr, rp, hx⟩ := r
    obtain ⟨W1, s1, sb⟩ := fin sr hx
    exact kR v H' t _ ws W1 ⟨st.keep, fun b hb => st.new b ((List.Sublist.append (List.Sublist.refl ws) sb).subset hb)⟩ (nd.sublist (List.Sublist.append (List.Sublist.refl ws) sb)) s1 rp hR
end
end PW
end PwF
section PwO
set_option maxRecDepth 100000
/-! PwO: operations. -/
namespace PW
open PySem PySem.Spec L2
open PyProof.Rows hiding St

section
variable {K : PySem.W.Frag} {H : Hp} {vs : List V}
theorem b0 (h : BReps K H [] vs) : vs = [] := h
theorem b1 {t : T} (h : BReps K H [t] vs) : ∃ v ws, vs = [v] ∧ RepT K H t v ws := by
  obtain ⟨v, r, ws, e, h, e2⟩ := h
  have e2 : r = [] := e2
  subst e2
  exact ⟨v, ws, e, h⟩
theorem b2 {t u : T} (h : BReps K H [t, u] vs) : ∃ v w ws1 ws2, vs = [v, w] ∧ RepT K H t v ws1 ∧ RepT K H u w ws2 := by
  obtain ⟨v, r, ws, e, h, g⟩ := h
  obtain ⟨w, ws2, e2, h2⟩ := b1 g
  exact ⟨v, w, ws, ws2, by rw [e, e2], h, h2⟩
theorem nofresh {H : Hp} : ∀ b ∈ ([] : List Addr), H b = none := by simp
end
/-- two ints -/
def oI2 (C : Int → Int → Prop) (g : Int → Int → D) : OF := fun ts R => match ts with
  | [.d (.int i), .d (.int j)] => C i j ∧ R (.d (g i j))
  | _ => False
def oAdd : OF := fun ts R => match ts with
  | [.d (.int i), .d (.int j)] => R (.d (.int (i + j)))
  | _ => False
def oSub : OF := fun ts R => match ts with
  | [.d (.int i), .d (.int j)] => R (.d (.int (i - j)))
  | _ => False
def oMul : OF := fun ts R => match ts with
  | [.d (.int i), .d (.int j)] => CMul i j ∧ R (.d (.int (i * j)))
  | _ => False
def oDiv : OF := fun ts R => match ts with
  | [.d (.int i), .d (.int j)] => CDiv i j ∧ R (.d (.int (i / j)))
  | _ => False
def oMod : OF := fun ts R => match ts with
  | [.d (.int i), .d (.int j)] => 0 < j ∧ R (.d (.int (i % j)))
  | _ => False
def oPow : OF := fun ts R => match ts with
  | [.d (.int i), .d (.int j)] => CPow i j ∧ R (.d (.int (i ^ j.toNat)))
  | _ => False
def oNeg : OF := fun ts R => match ts with
  | [.d (.int i)] => R (.d (.int (-i)))
  | _ => False
def oCmp (p : Int → Int → Bool) : OF := fun ts R => match ts with
  | [.d (.int i), .d (.int j)] => R (.d (.bool (p i j)))
  | _ => False
abbrev oLt : OF := oCmp fun i j => decide (i < j)
abbrev oLe : OF := oCmp fun i j => decide (i ≤ j)
abbrev oGt : OF := oCmp fun i j => decide (j < i)
abbrev oGe : OF := oCmp fun i j => decide (j ≤ i)
theorem ok_i2 {K : PySem.W.Frag} {o : OF} {r2 : R2} (C : Int → Int → Prop) (g : Int → Int → D) (gv : Int → Int → V) (ho : ∀ ts R, o ts R → ∃ i j, ts = [.d (.int i), .d (.int j)] ∧ C i j ∧ R (.d (g i j)))
    (hr : ∀ i j H (Q : VK), C i j → Q (gv i j) H → r2 (.int i) (.int j) H Q) (hg : ∀ H i j, RepD K H (g i j) (gv i j)) : OpOk K o fun vs H Q => ∃ x y, vs = [x, y] ∧ r2 x y H Q := by
  intro ts vs H Q R b h k
  obtain ⟨i, j, rfl, hC, hR⟩ := ho ts R h
  obtain ⟨v, w, _, _, e, ⟨h1, _⟩, ⟨h2, _⟩⟩ := b2 b
  have h1 : v = .int i := h1
  have h2 : w = .int j := h2
  subst h1 h2
  exact ⟨_, _, e, hr i j H Q hC (k _ _ (.d (g i j)) [] (Same.refl _) nofresh (by simp) ⟨hg H i j, rfl⟩ hR)⟩
theorem m2 {o : OF} (C : Int → Int → Prop) (g : Int → Int → D) (h : o = fun ts R => match ts with
  | [.d (.int i), .d (.int j)] => C i j ∧ R (.d (g i j))
  | _ => False) : ∀ ts R, o ts R → ∃ i j, ts = [.d (.int i), .d (.int j)] ∧ C i j ∧ R (.d (g i j)) := by
  subst h
  intro ts R q
  split at q
  · exact ⟨_, _, rfl, q⟩
  · exact q.elim
theorem m2' {o : OF} (g : Int → Int → D) (h : o = fun ts R => match ts with
  | [.d (.int i), .d (.int j)] => R (.d (g i j))
  | _ => False) : ∀ ts R, o ts R → ∃ i j, ts = [.d (.int i), .d (.int j)] ∧ True ∧ R (.d (g i j)) := by
  subst h
  intro ts R q
  split at q
  · exact ⟨_, _, rfl, trivial, q⟩
  · exact q.elim
section
variable {X : Cx} {a b e : Expr} {es : List Expr} {pos : Pos} {fa fb f : TF} {fs : TAF}
theorem ve_add (ha : VE X a fa) (hb : VE X b fb) : VE X (.BinOp a .Add b pos) (fOp oAdd (fCons fa (fCons fb fNil))) :=
  ve_bin op_add (ok_i2 _ _ (fun i j => .int (i + j)) (m2' _ rfl) (fun i j H Q _ q => ⟨i, j, rfl, rfl, q⟩) fun _ _ _ => rfl) ha hb
theorem ve_sub (ha : VE X a fa) (hb : VE X b fb) : VE X (.BinOp a .Sub b pos) (fOp oSub (fCons fa (fCons fb fNil))) :=
  ve_bin op_sub (ok_i2 _ _ (fun i j => .int (i - j)) (m2' _ rfl) (fun i j H Q _ q => ⟨i, j, rfl, rfl, q⟩) fun _ _ _ => rfl) ha hb
theorem ve_mul (ha : VE X a fa) (hb : VE X b fb) : VE X (.BinOp a .Mult b pos) (fOp oMul (fCons fa (fCons fb fNil))) :=
  ve_bin op_mul (ok_i2 _ _ (fun i j => .int (i * j)) (m2 CMul _ rfl) (fun i j H Q c q => ⟨i, j, rfl, rfl, c, q⟩) fun _ _ _ => rfl) ha hb
theorem ve_div (ha : VE X a fa) (hb : VE X b fb) : VE X (.BinOp a .FloorDiv b pos) (fOp oDiv (fCons fa (fCons fb fNil))) :=
  ve_bin op_fdiv (ok_i2 _ _ (fun i j => .int (i / j)) (m2 CDiv _ rfl) (fun i j H Q c q => ⟨i, j, rfl, rfl, c, q⟩) fun _ _ _ => rfl) ha hb
theorem ve_mod (ha : VE X a fa) (hb : VE X b fb) : VE X (.BinOp a .Mod b pos) (fOp oMod (fCons fa (fCons fb fNil))) :=
  ve_bin op_mod (ok_i2 _ _ (fun i j => .int (i % j)) (m2 (fun _ j => 0 < j) _ rfl) (fun i j H Q c q => ⟨i, j, rfl, rfl, c, q⟩) fun _ _ _ => rfl) ha hb
theorem ve_pow (ha : VE X a fa) (hb : VE X b fb) : VE X (.BinOp a .Pow b pos) (fOp oPow (fCons fa (fCons fb fNil))) :=
  ve_bin op_pow (ok_i2 _ _ (fun i j => .int (i ^ j.toNat)) (m2 CPow _ rfl) (fun i j H Q c q => ⟨i, j, rfl, rfl, c, q⟩) fun _ _ _ => rfl) ha hb
theorem ve_neg (ha : VE X a fa) : VE X (.UnaryOp .USub a pos) (fOp oNeg (fCons fa fNil)) := ve_un un_neg (by
  intro ts vs H Q R b h k
  unfold oNeg at h
  split at h
  · rename_i i
    obtain ⟨v, _, e, h1, _⟩ := b1 b
    have h1 : v = .int i := h1
    subst h1
    exact ⟨_, e, i, rfl, k _ _ (.d (.int (-i))) [] (Same.refl _) nofresh (by simp) ⟨rfl, rfl⟩ h⟩
  · exact h.elim) ha
/-- the comparisons of ints -/
theorem oc_lt {K : PySem.W.Frag} : OpOk K oLt fun vs H Q => ∃ x y, vs = [x, y] ∧ rI0 (fun i j => .bl (decide (i < j))) x y H Q := ok_i2 _ _ (fun i j => .bl (decide (i < j))) (m2' _ rfl) (fun i j H Q _ q => ⟨i, j, rfl, rfl, q⟩) fun _ _ _ => rfl
theorem oc_le {K : PySem.W.Frag} : OpOk K oLe fun vs H Q => ∃ x y, vs = [x, y] ∧ rI0 (fun i j => .bl (decide (i ≤ j))) x y H Q := ok_i2 _ _ (fun i j => .bl (decide (i ≤ j))) (m2' _ rfl) (fun i j H Q _ q => ⟨i, j, rfl, rfl, q⟩) fun _ _ _ => rfl
theorem oc_gt {K : PySem.W.Frag} : OpOk K oGt fun vs H Q => ∃ x y, vs = [x, y] ∧ rI0 (fun i j => .bl (decide (j < i))) x y H Q := ok_i2 _ _ (fun i j => .bl (decide (j < i))) (m2' _ rfl) (fun i j H Q _ q => ⟨i, j, rfl, rfl, q⟩) fun _ _ _ => rfl
theorem oc_ge {K : PySem.W.Frag} : OpOk K oGe fun vs H Q => ∃ x y, vs = [x, y] ∧ rI0 (fun i j => .bl (decide (j ≤ i))) x y H Q := ok_i2 _ _ (fun i j => .bl (decide (j ≤ i))) (m2' _ rfl) (fun i j H Q _ q => ⟨i, j, rfl, rfl, q⟩) fun _ _ _ => rfl
/-- == of numbers, of truths, of texts -/
def oEqS : OF := fun ts R => match ts with
  | [.d (.int i), .d (.int j)] => R (.d (.bool (decide (i = j))))
  | [.d (.bool i), .d (.bool j)] => R (.d (.bool (decide (i = j))))
  | [.d (.str i), .d (.str j)] => R (.d (.bool (decide (i = j))))
  | _ => False
def oNeS : OF := fun ts R => match ts with
  | [.d (.int i), .d (.int j)] => R (.d (.bool (!decide (i = j))))
  | [.d (.bool i), .d (.bool j)] => R (.d (.bool (!decide (i = j))))
  | [.d (.str i), .d (.str j)] => R (.d (.bool (!decide (i = j))))
  | _ => False
theorem oc_eqS {K : PySem.W.Frag} : OpOk K oEqS fun vs H Q => ∃ x y, vs = [x, y] ∧ rEq x y H Q := by
  intro ts vs H Q R b h k
  unfold oEqS at h
  split at h
  · rename_i i j
    obtain ⟨v, w, _, _, e, ⟨h1, _⟩, ⟨h2, _⟩⟩ := b2 b
    have h1 : v = .int i := h1
    have h2 : w = .int j := h2
    subst h1 h2
    refine ⟨_, _, e, rfl, k _ _ (.d (.bool (decide (i = j)))) [] (Same.refl _) nofresh (by simp) ⟨?_, rfl⟩ h⟩
    show V.bl _ = V.bl _
    congr 1
    exact decide_eq_decide.mpr ⟨fun z => V.int.inj z, fun z => by rw [z]⟩
  · rename_i i j
    obtain ⟨v, w, _, _, e, ⟨h1, _⟩, ⟨h2, _⟩⟩ := b2 b
    have h1 : v = .bl i := h1
    have h2 : w = .bl j := h2
    subst h1 h2
    refine ⟨_, _, e, rfl, k _ _ (.d (.bool (decide (i = j)))) [] (Same.refl _) nofresh (by simp) ⟨?_, rfl⟩ h⟩
    show V.bl _ = V.bl _
    congr 1
    exact decide_eq_decide.mpr ⟨fun z => V.bl.inj z, fun z => by rw [z]⟩
  · rename_i i j
    obtain ⟨v, w, _, _, e, ⟨h1, _⟩, ⟨h2, _⟩⟩ := b2 b
    have h1 : v = .str i := h1
    have h2 : w = .str j := h2
    subst h1 h2
    refine ⟨_, _, e, rfl, k _ _ (.d (.bool (decide (i = j)))) [] (Same.refl _) nofresh (by simp) ⟨?_, rfl⟩ h⟩
    show V.bl _ = V.bl _
    congr 1
    exact decide_eq_decide.mpr ⟨fun z => V.str.inj z, fun z => by rw [z]⟩
  · exact h.elim
theorem oc_neS {K : PySem.W.Frag} : OpOk K oNeS fun vs H Q => ∃ x y, vs = [x, y] ∧ rNe x y H Q := by
  intro ts vs H Q R b h k
  unfold oNeS at h
  split at h
  · rename_i i j
    obtain ⟨v, w, _, _, e, ⟨h1, _⟩, ⟨h2, _⟩⟩ := b2 b
    have h1 : v = .int i := h1
    have h2 : w = .int j := h2
    subst h1 h2
    refine ⟨_, _, e, rfl, k _ _ (.d (.bool (!decide (i = j)))) [] (Same.refl _) nofresh (by simp) ⟨?_, rfl⟩ h⟩
    show V.bl _ = V.bl _
    congr 2
    exact decide_eq_decide.mpr ⟨fun z => V.int.inj z, fun z => by rw [z]⟩
  · rename_i i j
    obtain ⟨v, w, _, _, e, ⟨h1, _⟩, ⟨h2, _⟩⟩ := b2 b
    have h1 : v = .bl i := h1
    have h2 : w = .bl j := h2
    subst h1 h2
    refine ⟨_, _, e, rfl, k _ _ (.d (.bool (!decide (i = j)))) [] (Same.refl _) nofresh (by simp) ⟨?_, rfl⟩ h⟩
    show V.bl _ = V.bl _
    congr 2
    exact decide_eq_decide.mpr ⟨fun z => V.bl.inj z, fun z => by rw [z]⟩
  · rename_i i j
    obtain ⟨v, w, _, _, e, ⟨h1, _⟩, ⟨h2, _⟩⟩ := b2 b
    have h1 : v = .str i := h1
    have h2 : w = .str j := h2
    subst h1 h2
    refine ⟨_, _, e, rfl, k _ _ (.d (.bool (!decide (i = j)))) [] (Same.refl _) nofresh (by simp) ⟨?_, rfl⟩ h⟩
    show V.bl _ = V.bl _
    congr 2
    exact decide_eq_decide.mpr ⟨fun z => V.str.inj z, fun z => by rw [z]⟩
  · exact h.elim
/-- as data, whatever it holds -/
def dOf : T → Option D
  | .d x => some x
  | .ls xs => some (.list xs)
  | _ => none
theorem dOf_dp {K : PySem.W.Frag} {H : Hp} {t : T} {x : D} {v : V} {ws : List Addr} (h : dOf t = some x) (r : RepT K H t v ws) : Dp K H v x := by
  unfold dOf at h
  split at h
  · cases h; exact r.1.dp
  · cases h
    obtain ⟨a, vs, e, ha, hr, _⟩ := r
    subst e
    exact .lst (SqL.of ha) hr.dp
  · cases h
def oEqD : OF := fun ts R => match ts with
  | [a, b] => match dOf a, dOf b with
    | some x, some y => SeqAt.shaped x = true ∧ SeqAt.shaped y = true ∧ R (.d (.bool (PyData.eqv x y)))
    | _, _ => False
  | _ => False
def oNeD : OF := fun ts R => match ts with
  | [a, b] => match dOf a, dOf b with
    | some x, some y => SeqAt.shaped x = true ∧ SeqAt.shaped y = true ∧ R (.d (.bool (!PyData.eqv x y)))
    | _, _ => False
  | _ => False
theorem oc_eqD {K : PySem.W.Frag} : OpOk K oEqD fun vs H Q => ∃ x y, vs = [x, y] ∧ rEqD K x y H Q := by
  intro ts vs H Q R b h k
  unfold oEqD at h
  split at h
  · rename_i t u
    split at h
    · rename_i x y hx hy
      obtain ⟨v, w, _, _, e, h1, h2⟩ := b2 b
      exact ⟨v, w, e, x, y, dOf_dp hx h1, dOf_dp hy h2, h.1, h.2.1, k _ _ (.d (.bool _)) [] (Same.refl _) nofresh (by simp) ⟨rfl, rfl⟩ h.2.2⟩
    · exact h.elim
  · exact h.elim
theorem oc_neD {K : PySem.W.Frag} : OpOk K oNeD fun vs H Q => ∃ x y, vs = [x, y] ∧ rNeD K x y H Q := by
  intro ts vs H Q R b h k
  unfold oNeD at h
  split at h
  · rename_i t u
    split at h
    · rename_i x y hx hy
      obtain ⟨v, w, _, _, e, h1, h2⟩ := b2 b
      exact ⟨v, w, e, x, y, dOf_dp hx h1, dOf_dp hy h2, h.1, h.2.1, k _ _ (.d (.bool _)) [] (Same.refl _) nofresh (by simp) ⟨rfl, rfl⟩ h.2.2⟩
    · exact h.elim
  · exact h.elim
/-! ### items -/
/-- xs[i] of a list, a tuple -/
def oIx : OF := fun ts R => match ts with
  | [.ls xs, .d (.int i)] => match atI xs i with
    | some x => R (.d x)
    | none => False
  | [.d (.list xs), .d (.int i)] => match atI xs i with
    | some x => R (.d x)
    | none => False
  | [.d (.tuple xs), .d (.int i)] => match atI xs i with
    | some x => R (.d x)
    | none => False
  | [.d (.str z), .d (.int i)] => z.length ≤ sizeLine ∧ match atI z.cps.toList i with
    | some c => R (.d (.str ⟨#[c]⟩))
    | none => False
  | _ => False
theorem atI_rep {K : PySem.W.Frag} {H : Hp} {xs : List D} {vs : List V} {i : Int} {x : D} (r : RepDs K H xs vs) (h : atI xs i = some x) : ∃ v, atI vs i = some v ∧ RepD K H x v := by
  unfold atI at h ⊢
  rw [r.length]
  cases q : ixN xs.length i with
  | none => rw [q] at h; cases h
  | some j =>
    rw [q] at h
    exact r.get h
theorem oc_ix {K : PySem.W.Frag} : OpOk K oIx fun vs H Q => ∃ x y, vs = [x, y] ∧ rIx K x y H Q := by
  intro ts vs H Q R b h k
  unfold oIx at h
  split at h
  · rename_i xs i
    split at h
    · rename_i x hx
      obtain ⟨v, w, _, _, e, ⟨a, us, e1, ha, hr, _⟩, ⟨h2, _⟩⟩ := b2 b
      have h2 : w = .int i := h2
      subst h2 e1
      obtain ⟨u, hu, ru⟩ := atI_rep hr hx
      exact ⟨_, _, e, .inl ⟨a, us, i, u, rfl, rfl, SqL.of ha, hu, k _ _ (.d x) [] (Same.refl _) nofresh (by simp) ⟨ru, rfl⟩ h⟩⟩
    · exact h.elim
  · rename_i xs i
    split at h
    · rename_i x hx
      obtain ⟨v, w, _, _, e, ⟨⟨a, us, e1, ha, hr⟩, _⟩, ⟨h2, _⟩⟩ := b2 b
      have h2 : w = .int i := h2
      subst h2 e1
      obtain ⟨u, hu, ru⟩ := atI_rep hr hx
      exact ⟨_, _, e, .inl ⟨a, us, i, u, rfl, rfl, ha.l, hu, k _ _ (.d x) [] (Same.refl _) nofresh (by simp) ⟨ru, rfl⟩ h⟩⟩
    · exact h.elim
  · rename_i xs i
    split at h
    · rename_i x hx
      obtain ⟨v, w, _, _, e, ⟨⟨a, us, e1, ha, hr⟩, _⟩, ⟨h2, _⟩⟩ := b2 b
      have h2 : w = .int i := h2
      subst h2 e1
      obtain ⟨u, hu, ru⟩ := atI_rep hr hx
      exact ⟨_, _, e, .inr (.inl ⟨a, us, i, u, rfl, rfl, ha, hu, k _ _ (.d x) [] (Same.refl _) nofresh (by simp) ⟨ru, rfl⟩ h⟩)⟩
    · exact h.elim
  · rename_i z i
    obtain ⟨hz, h⟩ := h
    split at h
    · rename_i c hc
      obtain ⟨v, w, _, _, e, ⟨h1, _⟩, ⟨h2, _⟩⟩ := b2 b
      have h1 : v = .str z := h1
      have h2 : w = .int i := h2
      subst h1 h2
      exact ⟨_, _, e, .inr (.inr ⟨z, i, c, rfl, rfl, hz, hc, k _ _ (.d (.str ⟨#[c]⟩)) [] (Same.refl _) nofresh (by simp) ⟨rfl, rfl⟩ h⟩)⟩
    · exact h.elim
  · exact h.elim
theorem ve_ixs (ha : VE X a fa) (hb : VE X b fb) (hs : PlainIx b := by exact fun _ _ => rfl) : VE X (.Subscript a b pos) (fOp oIx (fCons fa (fCons fb fNil))) := ve_ix ix_seq oc_ix ha hb hs
/-! ### built-in functions -/
def oLen : OF := fun ts R => match ts with
  | [.ls xs] => R (.d (.int xs.length))
  | [.d (.list xs)] => R (.d (.int xs.length))
  | [.d (.tuple xs)] => R (.d (.int xs.length))
  | [.d (.str z)] => z.length ≤ sizeLine ∧ R (.d (.int z.length))
  | _ => False
theorem oc_len {K : PySem.W.Frag} : OpOk K oLen fun xs H Q => ∃ x n, xs = [x] ∧ LenV K x H n ∧ Q (.int n) H := by
  intro ts vs H Q R b h k
  unfold oLen at h
  split at h
  · rename_i xs
    obtain ⟨v, _, e, a, us, e1, ha, hr, _⟩ := b1 b
    subst e1
    refine ⟨_, us.length, e, .inl ⟨us, SqL.of ha, rfl⟩, k _ _ (.d (.int xs.length)) [] (Same.refl _) nofresh (by simp) ⟨?_, rfl⟩ h⟩
    rw [hr.length]; rfl
  · rename_i xs
    obtain ⟨v, _, e, ⟨a, us, e1, ha, hr⟩, _⟩ := b1 b
    subst e1
    refine ⟨_, us.length, e, .inl ⟨us, ha.l, rfl⟩, k _ _ (.d (.int xs.length)) [] (Same.refl _) nofresh (by simp) ⟨?_, rfl⟩ h⟩
    rw [hr.length]; rfl
  · rename_i xs
    obtain ⟨v, _, e, ⟨a, us, e1, ha, hr⟩, _⟩ := b1 b
    subst e1
    refine ⟨_, us.length, e, .inr ⟨us, ha, rfl⟩, k _ _ (.d (.int xs.length)) [] (Same.refl _) nofresh (by simp) ⟨?_, rfl⟩ h⟩
    rw [hr.length]; rfl
  · rename_i z
    obtain ⟨v, _, e, h1, _⟩ := b1 b
    have h1 : v = .str z := h1
    subst h1
    exact ⟨_, z.length, e, ⟨h.1, rfl⟩, k _ _ (.d (.int z.length)) [] (Same.refl _) nofresh (by simp) ⟨rfl, rfl⟩ h.2⟩
  · exact h.elim
/-- int of a number, of a truth -/
def oInt : OF := fun ts R => match ts with
  | [.d (.int i)] => R (.d (.int i))
  | [.d (.bool c)] => R (.d (.int (if c = true then 1 else 0)))
  | _ => False
theorem oc_int {K : PySem.W.Frag} : OpOk K oInt fun xs H Q => (∃ i, xs = [.int i] ∧ Q (.int i) H) ∨ ∃ k, xs = [.bl k] ∧ Q (.int (if k then 1 else 0)) H := by
  intro ts vs H Q R b h k
  unfold oInt at h
  split at h
  · rename_i i
    obtain ⟨v, _, e, h1, _⟩ := b1 b
    have h1 : v = .int i := h1
    subst h1
    exact .inl ⟨i, e, k _ _ (.d (.int i)) [] (Same.refl _) nofresh (by simp) ⟨rfl, rfl⟩ h⟩
  · rename_i c
    obtain ⟨v, _, e, h1, _⟩ := b1 b
    have h1 : v = .bl c := h1
    subst h1
    exact .inr ⟨c, e, k _ _ (.d (.int (if c = true then 1 else 0))) [] (Same.refl _) nofresh (by simp) ⟨rfl, rfl⟩ h⟩
  · exact h.elim
def oMax2 : OF := fun ts R => match ts with
  | [.d (.int i), .d (.int j)] => R (.d (.int (if j > i then j else i)))
  | _ => False
def oMin2 : OF := fun ts R => match ts with
  | [.d (.int i), .d (.int j)] => R (.d (.int (if j < i then j else i)))
  | _ => False
theorem oc_max2 {K : PySem.W.Frag} : OpOk K oMax2 fun xs H Q => ∃ i j, xs = [.int i, .int j] ∧ Q (.int (if j > i then j else i)) H := by
  intro ts vs H Q R b h k
  unfold oMax2 at h
  split at h
  · rename_i i j
    obtain ⟨v, w, _, _, e, ⟨h1, _⟩, ⟨h2, _⟩⟩ := b2 b
    have h1 : v = .int i := h1
    have h2 : w = .int j := h2
    subst h1 h2
    exact ⟨i, j, e, k _ _ (.d (.int _)) [] (Same.refl _) nofresh (by simp) ⟨rfl, rfl⟩ h⟩
  · exact h.elim
theorem oc_min2 {K : PySem.W.Frag} : OpOk K oMin2 fun xs H Q => ∃ i j, xs = [.int i, .int j] ∧ Q (.int (if j < i then j else i)) H := by
  intro ts vs H Q R b h k
  unfold oMin2 at h
  split at h
  · rename_i i j
    obtain ⟨v, w, _, _, e, ⟨h1, _⟩, ⟨h2, _⟩⟩ := b2 b
    have h1 : v = .int i := h1
    have h2 : w = .int j := h2
    subst h1 h2
    exact ⟨i, j, e, k _ _ (.d (.int _)) [] (Same.refl _) nofresh (by simp) ⟨rfl, rfl⟩ h⟩
  · exact h.elim
/-- the items of a list, a tuple -/
def seqOf : T → Option (List D)
  | .ls xs => some xs
  | .d (.list xs) => some xs
  | _ => none
theorem seqOf_rep {K : PySem.W.Frag} {H : Hp} {t : T} {xs : List D} {v : V} {ws : List Addr} (h : seqOf t = some xs) (r : RepT K H t v ws) : ∃ a vs, v = .ref a ∧ SqL K H a vs ∧ RepDs K H xs vs := by
  unfold seqOf at h
  split at h
  · cases h
    obtain ⟨a, vs, e, ha, hr, _⟩ := r
    exact ⟨a, vs, e, SqL.of ha, hr⟩
  · cases h
    obtain ⟨⟨a, vs, e, ha, hr⟩, _⟩ := r
    exact ⟨a, vs, e, ha.l, hr⟩
  · cases h
theorem rep_bls {K : PySem.W.Frag} {H : Hp} : ∀ {bs : List Bool} {vs : List V}, RepDs K H (bs.map .bool) vs → vs = bs.map V.bl
  | [], _, h => h
  | b :: bs, _, ⟨v, r, e, h, t⟩ => by
    have h : v = .bl b := h
    rw [e, h, rep_bls t]; rfl
theorem rep_nums {K : PySem.W.Frag} {H : Hp} : ∀ {bs : List Int} {vs : List V}, RepDs K H (bs.map .int) vs → vs = bs.map V.int
  | [], _, h => h
  | b :: bs, _, ⟨v, r, e, h, t⟩ => by
    have h : v = .int b := h
    rw [e, h, rep_nums t]; rfl
def oAny : OF := fun ts R => ∃ (t : T) (bs : List Bool), ts = [t] ∧ seqOf t = some (bs.map .bool) ∧ R (.d (.bool (bs.any id)))
def oAll : OF := fun ts R => ∃ (t : T) (bs : List Bool), ts = [t] ∧ seqOf t = some (bs.map .bool) ∧ R (.d (.bool (bs.all id)))
def oSum : OF := fun ts R => ∃ (t : T) (ns : List Int), ts = [t] ∧ seqOf t = some (ns.map .int) ∧ R (.d (.int ns.sum))
theorem oc_any {K : PySem.W.Frag} : OpOk K oAny (rAny K) := by
  rintro ts vs H Q R b ⟨t, bs, rfl, hs, hR⟩ k
  obtain ⟨v, _, e, h1⟩ := b1 b
  obtain ⟨a, us, e1, hq, hr⟩ := seqOf_rep hs h1
  have := rep_bls hr
  subst e1 this
  exact ⟨a, bs, e, hq, k _ _ (.d (.bool _)) [] (Same.refl _) nofresh (by simp) ⟨rfl, rfl⟩ hR⟩
theorem oc_all {K : PySem.W.Frag} : OpOk K oAll (rAll K) := by
  rintro ts vs H Q R b ⟨t, bs, rfl, hs, hR⟩ k
  obtain ⟨v, _, e, h1⟩ := b1 b
  obtain ⟨a, us, e1, hq, hr⟩ := seqOf_rep hs h1
  have := rep_bls hr
  subst e1 this
  exact ⟨a, bs, e, hq, k _ _ (.d (.bool _)) [] (Same.refl _) nofresh (by simp) ⟨rfl, rfl⟩ hR⟩
theorem oc_sum {K : PySem.W.Frag} : OpOk K oSum (rSum K) := by
  rintro ts vs H Q R b ⟨t, bs, rfl, hs, hR⟩ k
  obtain ⟨v, _, e, h1⟩ := b1 b
  obtain ⟨a, us, e1, hq, hr⟩ := seqOf_rep hs h1
  have := rep_nums hr
  subst e1 this
  exact ⟨a, bs, e, hq, k _ _ (.d (.int _)) [] (Same.refl _) nofresh (by simp) ⟨rfl, rfl⟩ hR⟩
/-! ### classes -/
inductive Ty where
  | non | bl | int | str | tup | lst | dct
def Ty.name : Ty → String
  | .non => "NoneType" | .bl => "bool" | .int => "int" | .str => "str" | .tup => "tuple" | .lst => "list" | .dct => "dict"
def Ty.isi : Ty → Ty → Bool
  | .non, .non => true | .bl, .bl => true | .bl, .int => true | .int, .int => true | .str, .str => true | .tup, .tup => true | .lst, .lst => true | .dct, .dct => true
  | _, _ => false
theorem Ty.kit {K : PySem.W.Frag} (a b : Ty) : PySem.W.kitOne K (.type a.name) (.type b.name) = some (a.isi b) := by
  refine kit_ty ?_
  cases a <;> cases b <;> decide +kernel
def tyOf : T → Ty
  | .d .none => .non | .d (.bool _) => .bl | .d (.int _) => .int | .d (.str _) => .str | .d (.tuple _) => .tup | .d (.list _) => .lst | .d (.dict _) => .dct
  | .ls _ => .lst | .lt _ => .lst | .dk _ => .dct | .tp _ => .tup | .ex _ _ _ => .non | .ob _ _ => .non | .pt _ => .tup
def notEx : T → Prop
  | .ex _ _ _ => False
  | .ob _ _ => False
  | _ => True
theorem sqT_tyx {K : PySem.W.Frag} {H : Hp} {a : Addr} {vs : List V} (h : SqT K H a vs) : TyX K H (.ref a) (.type "tuple") := by
  rcases h with (h | ⟨o, h⟩) | ⟨o, _, _, h, c, _⟩
  · exact .base (.tup h)
  · exact .fTuple h
  · exact .kTuple h c
theorem RepT.ty {K : PySem.W.Frag} {H : Hp} {t : T} {v : V} {ws : List Addr} (r : RepT K H t v ws) (ne : notEx t) : TyX K H v (.type (tyOf t).name) := by
  match t, r with
  | .ex _ _ _, _ => exact (show False from ne).elim
  | .ob _ _, _ => exact (show False from ne).elim
  | .pt _, ⟨a, vs, its, n, e, h, _, _⟩ => subst e; exact sqT_tyx (.inl (.inr ⟨_, h⟩))
  | .d .none, ⟨h, _⟩ => have h : v = .non := h; subst h; exact .base .non
  | .d (.bool b), ⟨h, _⟩ => have h : v = .bl b := h; subst h; exact .base (.bl b)
  | .d (.int b), ⟨h, _⟩ => have h : v = .int b := h; subst h; exact .base (.int b)
  | .d (.str b), ⟨h, _⟩ => have h : v = .str b := h; subst h; exact .base (.str b)
  | .d (.tuple xs), ⟨⟨a, vs, e, h, _⟩, _⟩ => subst e; exact sqT_tyx h
  | .d (.list xs), ⟨⟨a, vs, e, h, _⟩, _⟩ =>
    subst e
    rcases h with ⟨o, h⟩ | ⟨o, _, _, h, c, _⟩
    · exact .base (.frz h)
    · exact .kList h c
  | .d (.dict _), ⟨h, _⟩ => exact h.elim
  | .ls _, ⟨a, vs, e, h, _⟩ => subst e; exact .base (.lst h)
  | .lt _, ⟨a, vs, w, e, h, _⟩ => subst e; exact .base (.lst h)
  | .dk _, ⟨a, vs, w, e, h, _⟩ => subst e; exact .base (.dK h)
  | .tp _, ⟨a, vs, e, h, _⟩ => subst e; exact sqT_tyx h
/-- isinstance(e, T), T a built-in class -/
def fIsi (c : Ty) (f : TF) : TF := fun ρ Q => f ρ fun o ρ1 => withR ρ1 [o] fun ts => match ts with
  | [.ex _ _ _] => False
  | [.ob _ _] => False
  | [t] => Q (.val (.d (.bool ((tyOf t).isi c)))) ρ1
  | _ => False
theorem ve_isi {c : Ty} {y : Str} {p py : Pos} (hg : Gl X "isinstance") (hm : X.mg "isinstance" = none) (hy : Gl X y) (hmy : X.mg y = none) (hv : bootBuiltins y = some (.type c.name)) (ha : VE X e f) (hny : y ≠ "__name__" := by decide) (hdy : (y == ("__debug__" : Str)) = false := by decide)
    (hs1 : starEach [e, .Name y py] X.env = (false, eval e X.env) :: starEach [.Name y py] X.env := by rfl) (hs2 : starEach [.Name y py] X.env = [(false, eval (.Name y py) X.env)] := by rfl) : VE X (.Call (.Name "isinstance" p) [e, .Name y py] [] pos) (fIsi c f) := by
  have hp : PE X (.Name y py) (tC (.ty c.name)) := pe_bltn hy hmy hv rfl hny hdy
  have := pe_callB (pos := pos) (p := p) call_isi hg hm boot_isinstance (pa_cons ha (pa_cons hp pa_nil (by rw [hs2]; rfl)) hs1) (by decide) (by decide) hs1 (by rw [hs2]; rfl)
  refine this.pwi fun σ H Q ⟨P, ρ, W, R, G, q, k⟩ => ⟨P, ρ, W, _, G, q, fun v H1 o ρ1 r1 h1 => ?_⟩
  obtain ⟨ws, W1, G1, st, nd, rp⟩ := r1.good G
  obtain ⟨ts, bt, h2⟩ := withR_ok G1.sr (os := [o]) (vs := [v]) (ws := ws) ⟨v, [], ws, [], rfl, rp, ⟨rfl, rfl⟩, by simp⟩ h1
  split at h2
  · exact h2.elim
  · exact h2.elim
  · rename_i t hne hne2
    have ne : notEx t := by cases t <;> first | exact True.intro | exact hne _ _ _ rfl | exact hne2 _ _ rfl
    obtain ⟨v', ws', e', rt⟩ := b1 bt
    injection e' with e' _
    subst e'
    exact ⟨v, .ty c.name, _, _, _, rfl, .ty _, rt.ty ne, Ty.kit (tyOf t) c, k _ _ (.val (.d (.bool _))) _ ⟨[], W1, by simpa using st.drop, by simpa using G1.nd, G1.sr, ⟨rfl, rfl⟩⟩ h2⟩
  · exact h2.elim
/-! ### lists put together, changed -/
def oCatL : OF := fun ts R => match ts with
  | [.ls xs, .ls ys] => xs.length + ys.length ≤ sizeLine ∧ R (.ls (xs ++ ys))
  | _ => False
theorem oc_catL {K : PySem.W.Frag} : OpOk K oCatL fun vs H Q => ∃ x y, vs = [x, y] ∧ rCat x y H Q := by
  intro ts vs H Q R b h k
  unfold oCatL at h
  split at h
  · rename_i xs ys
    obtain ⟨v, w, _, _, e, ⟨a, us, e1, ha, hr, _⟩, ⟨a2, us2, e2, ha2, hr2, _⟩⟩ := b2 b
    subst e1 e2
    refine ⟨_, _, e, a, a2, us, us2, rfl, rfl, ha, ha2, by rw [hr.length, hr2.length]; exact h.1, fun p hp => k _ _ (.ls (xs ++ ys)) [p] (same_upd hp) (fun b hb => ?_) (by simp) ⟨p, _, rfl, upd_same, (hr.append hr2).keep (.same (same_upd hp)), rfl⟩ h.2⟩
    have : b = p := by simpa using hb
    subst this; exact hp
  · exact h.elim
theorem ve_catL (ha : VE X a fa) (hb : VE X b fb) : VE X (.BinOp a .Add b pos) (fOp oCatL (fCons fa (fCons fb fNil))) := ve_bin op_cat oc_catL ha hb
def mApp : MF := fun xs ts R => match ts with
  | [.d x] => xs.length < sizeLine ∧ R .none (xs ++ [x])
  | _ => False
theorem mk_app {K : PySem.W.Frag} : MutOk K mApp rAppend := by
  intro xs ts a xv vs H Q R ha hr b h k
  unfold mApp at h
  split at h
  · rename_i x
    obtain ⟨v, _, e, h1, _⟩ := b1 b
    have kp : Kept [a] H (upd H a (.lst (xv ++ [v]))) := ⟨fun b o hb hn => by rw [upd_ne (by simpa using hn)]; exact hb, fun b hb => by
      have : b = a := by simpa using hb
      subst this; exact .inl ⟨_, ha⟩⟩
    exact ⟨a, xv, v, rfl, e, ha, by rw [hr.length]; exact h.1, k _ _ .none (xs ++ [x]) (xv ++ [v]) (fun b o hb hn => by rw [upd_ne hn]; exact hb) upd_same ((hr.keep kp).append (.one (h1.keep kp))) rfl h.2⟩
  · exact h.elim
end
end PW
end PwO
section PwI
set_option maxRecDepth 100000
/-! PwI: enumerate, zip, reversed, texts, walked. -/
namespace PW
open PySem PySem.Spec L2 RZ RT
open PyProof.Rows hiding St

def LsAt (K : PySem.W.Frag) (H : Hp) (W : List Addr) (a : Addr) (vs : List V) : Prop := (H a = some (.lst vs) ∧ a ∉ W) ∨ SqZ K H a vs
theorem LsAt.kept {K : PySem.W.Frag} {H H' : Hp} {W : List Addr} {a : Addr} {vs : List V} (h : LsAt K H W a vs) (k : Kept W H H') : SqL K H' a vs := by
  rcases h with ⟨h, ha⟩ | h
  · exact .inl (.inl (k.keep _ _ h ha))
  · exact (k.sqZ h).l
/-- behind an operand that is a list -/
theorem ls_of {K : PySem.W.Frag} {H : Hp} {t : T} {xs : List D} {v : V} {ws W1 : List Addr} (h : seqOf t = some xs) (rp : RepT K H t v ws) (nd : (ws ++ W1).Nodup) : ∃ a vs, v = .ref a ∧ LsAt K H W1 a vs ∧ RepDs K H xs vs := by
  unfold seqOf at h
  split at h
  · cases h
    obtain ⟨a, vs, e, ha, hr, ew⟩ := rp
    exact ⟨a, vs, e, .inl ⟨ha, nd_apart nd a (by rw [ew]; simp)⟩, hr⟩
  · cases h
    obtain ⟨⟨a, vs, e, ha, hr⟩, _⟩ := rp
    exact ⟨a, vs, e, .inr ha, hr⟩
  · cases h
def enumD : Nat → List D → List D
  | _, [] => []
  | i, x :: xs => .tuple [.int (i : Nat), x] :: enumD (i + 1) xs
theorem enumD_length : ∀ (xs : List D) (i : Nat), (enumD i xs).length = xs.length
  | [], _ => rfl
  | x :: xs, i => by unfold enumD; rw [List.length_cons, List.length_cons, enumD_length xs]
theorem enumD_get : ∀ (xs : List D) (k i : Nat) (x : D), xs[i]? = some x → (enumD k xs)[i]? = some (.tuple [.int ((k + i : Nat) : Int), x])
  | [], _, _, _, h => by simp at h
  | y :: xs, k, 0, x, h => by
    have h : y = x := by simpa using h
    subst h; rfl
  | y :: xs, k, i + 1, x, h => by
    unfold enumD
    rw [List.getElem?_cons_succ, enumD_get xs (k + 1) i x (by simpa using h)]
    congr 4
    omega
def zipD : List D → List D → List D
  | x :: xs, y :: ys => .tuple [x, y] :: zipD xs ys
  | _, _ => []
theorem zipD_get : ∀ (xs ys : List D) (i : Nat) (x y : D), xs[i]? = some x → ys[i]? = some y → (zipD xs ys)[i]? = some (.tuple [x, y])
  | [], _, _, _, _, h, _ => by simp at h
  | _ :: _, [], _, _, _, _, h => by simp at h
  | a :: xs, b :: ys, 0, x, y, h, g => by
    have h : a = x := by simpa using h
    have g : b = y := by simpa using g
    subst h g; rfl
  | a :: xs, b :: ys, i + 1, x, y, h, g => zipD_get xs ys i x y (by simpa using h) (by simpa using g)
theorem zipD_length : ∀ (xs ys : List D), (zipD xs ys).length = min xs.length ys.length
  | [], ys => by simp [zipD]
  | x :: xs, [] => by simp [zipD]
  | x :: xs, y :: ys => by unfold zipD; rw [List.length_cons, zipD_length xs ys, List.length_cons, List.length_cons]; omega
section
variable {X : Cx} {e e2 : Expr} {elts : List Expr} {kk : Nat} {p pos tpos : Pos} {f g : TF} {tg : Expr}
/-- the pair just made -/
theorem pair_rep {K : PySem.W.Frag} {H : Hp} {T : Addr} {x y : D} {v w : V} (hT : H T = none) (hx : RepD K H x v) (hy : RepD K H y w) : Same H (upd H T (.tup [v, w])) ∧ RepD K (upd H T (.tup [v, w])) (.tuple [x, y]) (.ref T) :=
  ⟨same_upd hT, ⟨T, [v, w], rfl, .inl (.inl upd_same), v, [w], rfl, hx.keep (.same (same_upd hT)), w, [], rfl, hy.keep (.same (same_upd hT)), rfl⟩⟩
def iEnumL (fs : TAF) : IF := fun ρ R => fs ρ fun os ρ1 => match os with
  | [.val t] => match seqOf t with
    | some xs => R (enumD 0 xs) ρ1
    | none => False
  | _ => False
theorem yld_enum {K : PySem.W.Frag} {H0 : Hp} {W : List Addr} {a : Addr} {xs : List D} {vs : List V} (hs : LsAt K H0 W a vs) (rp : RepDs K H0 xs vs) (mu : ∀ b ∈ W, MutO H0 b) : Yld K (Ite K a) H0 W (enumD 0 xs) := fun H k => by
  have kp : Kept W H0 H := ⟨k, mu⟩
  have hs' := hs.kept kp
  have rp' := rp.keep kp
  refine ⟨fun i hi => ⟨?_, fun x H' y => ?_⟩, fun i hi => ⟨vs, hs', by rw [rp.length]; rw [enumD_length] at hi; exact Nat.le_of_eq hi.symm⟩⟩
  · rw [enumD_length] at hi
    obtain ⟨v, hv, _⟩ := rp'.get (List.getElem?_eq_getElem hi)
    exact ⟨vs, v, hs', hv⟩
  · rw [enumD_length] at hi
    obtain ⟨T, z, e1, hT, e2, y⟩ := y
    subst e1 e2
    obtain ⟨v, hv, hr⟩ := rp'.get (List.getElem?_eq_getElem hi)
    have := y vs hs'
    rw [hv] at this; cases this
    obtain ⟨s1, r1⟩ := pair_rep (x := .int (i : Nat)) (v := .int (i : Nat)) hT rfl hr
    exact ⟨s1, _, by rw [enumD_get xs 0 i _ (List.getElem?_eq_getElem hi), Nat.zero_add], r1⟩
variable {fs : TAF}
theorem vi_enum (ha : VA X [e] fs) (hg : Gl X "enumerate") (hm : X.mg "enumerate" = none) (hs : starEach [e] X.env = [(false, eval e X.env)] := by rfl) : VI X (.Tuple elts kk tpos) (.Call (.Name "enumerate" p) [e] [] pos) (iEnumL fs) :=
  (pi_enum hg hm ha hs).pwi fun σ H R ⟨P, ρ, W, Rq, G, q, k⟩ => ⟨P, ρ, W, _, G, q, fun vs H1 os ρ1 r1 h1 => by
    obtain ⟨ws, W1, G1, st, nd, rp⟩ := r1.good G
    split at h1
    · rename_i t
      split at h1
      · rename_i xs hq
        obtain ⟨v, r, w1, w2, ev, hv, ⟨er, ew2⟩, ew⟩ := rp
        subst ev er ew2 ew
        have hv : RepT X.K H1 t v w1 := hv
        obtain ⟨a, us, e1, la, hr⟩ := ls_of hq hv (W1 := W1) (by simpa using nd)
        subst e1
        exact ⟨a, us, rfl, la.kept ⟨fun _ _ h _ => h, G1.mut⟩, k _ _ _ ρ1 ⟨W1, st.drop, G1, yld_enum la hr G1.mut⟩ h1⟩
      · exact h1.elim
    · exact h1.elim⟩
def iZipL (fs : TAF) : IF := fun ρ R => fs ρ fun os ρ1 => match os with
  | [.val t, .val u] => match seqOf t, seqOf u with
    | some xs, some ys => R (zipD xs ys) ρ1
    | _, _ => False
  | _ => False
def iZipT (fs : TAF) : IF := fun ρ R => fs ρ fun os ρ1 => match os with
  | [.val (.d (.tuple xs)), .val (.d (.tuple ys))] => R (zipD xs ys) ρ1
  | _ => False
theorem yld_zip {K : PySem.W.Frag} {H0 : Hp} {W : List Addr} {a b : Addr} {xs ys : List D} {vs us : List V} (hs : LsAt K H0 W a vs) (ht : LsAt K H0 W b us) (rp : RepDs K H0 xs vs) (rq : RepDs K H0 ys us) (mu : ∀ b ∈ W, MutO H0 b) : Yld K (Itz K a b) H0 W (zipD xs ys) := fun H k => by
  have kp : Kept W H0 H := ⟨k, mu⟩
  have hs' := hs.kept kp
  have ht' := ht.kept kp
  have rp' := rp.keep kp
  have rq' := rq.keep kp
  refine ⟨fun i hi => ?_, fun i hi => ⟨vs, us, hs', ht', by rw [rp.length, rq.length]; rw [zipD_length] at hi; omega⟩⟩
  rw [zipD_length] at hi
  have hx : i < xs.length := by omega
  have hy : i < ys.length := by omega
  obtain ⟨v, hv, hr⟩ := rp'.get (List.getElem?_eq_getElem hx)
  obtain ⟨u, hu, hr2⟩ := rq'.get (List.getElem?_eq_getElem hy)
  refine ⟨⟨vs, us, v, u, hs', ht', hv, hu⟩, fun x H' y => ?_⟩
  obtain ⟨T, z1, z2, e1, hT, e2, y1, y2⟩ := y
  subst e1 e2
  have h1 := y1 vs hs'
  have h2 := y2 us ht'
  rw [hv] at h1; cases h1
  rw [hu] at h2; cases h2
  obtain ⟨s1, r1⟩ := pair_rep hT hr hr2
  exact ⟨s1, _, zipD_get xs ys i _ _ (List.getElem?_eq_getElem hx) (List.getElem?_eq_getElem hy), r1⟩
theorem yld_zipT {K : PySem.W.Frag} {H0 : Hp} {W : List Addr} {a b : Addr} {xs ys : List D} {vs us : List V} (hs : SqT K H0 a vs) (ht : SqT K H0 b us) (rp : RepDs K H0 xs vs) (rq : RepDs K H0 ys us) (mu : ∀ b ∈ W, MutO H0 b) : Yld K (ItzT K a b) H0 W (zipD xs ys) := fun H k => by
  have kp : Kept W H0 H := ⟨k, mu⟩
  have hs' := kp.sqT hs
  have ht' := kp.sqT ht
  have rp' := rp.keep kp
  have rq' := rq.keep kp
  refine ⟨fun i hi => ?_, fun i hi => ⟨vs, us, hs', ht', by rw [rp.length, rq.length]; rw [zipD_length] at hi; omega⟩⟩
  rw [zipD_length] at hi
  have hx : i < xs.length := by omega
  have hy : i < ys.length := by omega
  obtain ⟨v, hv, hr⟩ := rp'.get (List.getElem?_eq_getElem hx)
  obtain ⟨u, hu, hr2⟩ := rq'.get (List.getElem?_eq_getElem hy)
  refine ⟨⟨vs, us, v, u, hs', ht', hv, hu⟩, fun x H' y => ?_⟩
  obtain ⟨T, z1, z2, e1, hT, e2, y1, y2⟩ := y
  subst e1 e2
  have h1 := y1 vs hs'
  have h2 := y2 us ht'
  rw [hv] at h1; cases h1
  rw [hu] at h2; cases h2
  obtain ⟨s1, r1⟩ := pair_rep hT hr hr2
  exact ⟨s1, _, zipD_get xs ys i _ _ (List.getElem?_eq_getElem hx) (List.getElem?_eq_getElem hy), r1⟩
theorem vi_zipL (ha : VA X [e, e2] fs) (hg : Gl X "zip") (hm : X.mg "zip" = none) (hs : starEach [e, e2] X.env = (false, eval e X.env) :: starEach [e2] X.env := by rfl) (hpl : (backTo pos (starEach [e2] X.env)).any (·.1) = false := by rfl) :
    VI X (.Tuple elts kk tpos) (.Call (.Name "zip" p) [e, e2] [] pos) (iZipL fs) := (pi_zip hg hm ha hs hpl).pwi fun σ H R ⟨P, ρ, W, Rq, G, q, k⟩ => ⟨P, ρ, W, _, G, q, fun vs H1 os ρ1 r1 h1 => by
    obtain ⟨ws, W1, G1, st, nd, rp⟩ := r1.good G
    split at h1
    · rename_i t u
      split at h1
      · rename_i xs ys hq hq2
        obtain ⟨v, r, w1, w2, ev, hv, ⟨v2, r2, w3, w4, ev2, hv2, ⟨er, ew2⟩, ew3⟩, ew⟩ := rp
        subst ev ev2 er ew2 ew3 ew
        have hv : RepT X.K H1 t v w1 := hv
        have hv2 : RepT X.K H1 u v2 w3 := hv2
        have nd' : (w1 ++ (w3 ++ W1)).Nodup := by simpa [List.append_assoc] using nd
        obtain ⟨a, us, e1, la, hr⟩ := ls_of hq hv (W1 := W1) (nd'.sublist (List.Sublist.append (List.Sublist.refl _) (List.sublist_append_right _ _)))
        obtain ⟨b, us2, e2, lb, hr2⟩ := ls_of hq2 hv2 (W1 := W1) (nd_right nd')
        subst e1 e2
        exact ⟨a, b, us, us2, rfl, la.kept ⟨fun _ _ h _ => h, G1.mut⟩, lb.kept ⟨fun _ _ h _ => h, G1.mut⟩, k _ _ _ ρ1 ⟨W1, st.drop, G1, yld_zip la lb hr hr2 G1.mut⟩ h1⟩
      · exact h1.elim
    · exact h1.elim⟩
theorem vi_zipT (ha : VA X [e, e2] fs) (hg : Gl X "zip") (hm : X.mg "zip" = none) (hs : starEach [e, e2] X.env = (false, eval e X.env) :: starEach [e2] X.env := by rfl) (hpl : (backTo pos (starEach [e2] X.env)).any (·.1) = false := by rfl) :
    VI X (.Tuple elts kk tpos) (.Call (.Name "zip" p) [e, e2] [] pos) (iZipT fs) := (pi_zipA hg hm ha hs hpl).pwi fun σ H R ⟨P, ρ, W, Rq, G, q, k⟩ => ⟨P, ρ, W, _, G, q, fun vs H1 os ρ1 r1 h1 => by
    obtain ⟨ws, W1, G1, st, nd, rp⟩ := r1.good G
    split at h1
    · rename_i xs ys
      obtain ⟨v, r, w1, w2, ev, hv, ⟨v2, r2, w3, w4, ev2, hv2, ⟨er, ew2⟩, ew3⟩, ew⟩ := rp
      obtain ⟨⟨a, us, e1, ha, hr⟩, _⟩ := hv
      obtain ⟨⟨b, us2, e2, hb, hr2⟩, _⟩ := hv2
      subst ev ev2 er e1 e2
      exact ⟨a, b, us, us2, rfl, .inr ⟨ha, hb, k _ _ _ ρ1 ⟨W1, st.drop, G1, yld_zipT ha hb hr hr2 G1.mut⟩ h1⟩⟩
    · exact h1.elim⟩
/-- the signs of a text -/
def signsD (x : Str) : List D := x.cps.toList.map fun c => .str ⟨#[c]⟩
def iStrF (f : TF) : IF := fun ρ R => f ρ fun o ρ1 => match o with
  | .val (.d (.str x)) => R (signsD x) ρ1
  | _ => False
theorem yld_str {K : PySem.W.Frag} {H0 : Hp} {W : List Addr} {x : Str} : Yld K (Its x) H0 W (signsD x) := fun H _ => by
  unfold signsD
  refine ⟨fun i hi => ⟨by show i < x.cps.size; simpa using hi, fun v H' y => ?_⟩, fun i (hi : i = _) => by show x.cps.size ≤ i; simp at hi; omega⟩
  obtain ⟨e, c, hc, ev⟩ := y
  subst e ev
  refine ⟨Same.refl _, .str ⟨#[c]⟩, ?_, rfl⟩
  rw [List.getElem?_map, Array.getElem?_toList, hc]
  rfl
theorem vi_str (he : VE X e f) : VI X tg e (iStrF f) := (pi_str he).pwi fun σ H R ⟨P, ρ, W, Rq, G, q, k⟩ => ⟨P, ρ, W, _, G, q, fun v H1 o ρ1 r1 h1 => by
  obtain ⟨ws, W1, G1, st, nd, rp⟩ := r1.good G
  split at h1
  · rename_i x
    have ev : v = .str x := rp.1
    subst ev
    exact ⟨x, rfl, k _ _ _ ρ1 ⟨W1, st.drop, G1, yld_str⟩ h1⟩
  · exact h1.elim⟩
/-- reversed(list or tuple) -/
def iRevF (f : TF) : IF := fun ρ R => f ρ fun o ρ1 => match o with
  | .val (.ls xs) => R xs.reverse ρ1
  | .val (.d (.list xs)) => R xs.reverse ρ1
  | .val (.d (.tuple xs)) => R xs.reverse ρ1
  | _ => False
theorem yld_rev {K : PySem.W.Frag} {H0 : Hp} {W : List Addr} {a : Addr} {xs : List D} {vs : List V} (hs : LsAt K H0 W a vs) (rp : RepDs K H0 xs vs) (mu : ∀ b ∈ W, MutO H0 b) : Yld K (Itv K a vs.length) H0 W xs.reverse := fun H k => by
  have kp : Kept W H0 H := ⟨k, mu⟩
  have hs' := hs.kept kp
  have rp' := rp.keep kp
  have hl := rp.length
  refine ⟨fun i hi => ?_, fun i hi => by rw [List.length_reverse] at hi; show vs.length ≤ i; omega⟩
  rw [List.length_reverse] at hi
  have hj : vs.length - 1 - i < xs.length := by omega
  obtain ⟨v, hv, hr⟩ := rp'.get (List.getElem?_eq_getElem hj)
  refine ⟨⟨by omega, vs, v, hs', hv⟩, fun x H' y => ?_⟩
  obtain ⟨e, y⟩ := y
  subst e
  have := y vs hs'
  rw [hv] at this; cases this
  refine ⟨Same.refl _, _, ?_, hr⟩
  rw [List.getElem?_reverse (by omega), ← List.getElem?_eq_getElem hj]
  congr 1
  omega
theorem yld_revT {K : PySem.W.Frag} {H0 : Hp} {W : List Addr} {a : Addr} {xs : List D} {vs : List V} (hs : SqT K H0 a vs) (rp : RepDs K H0 xs vs) (mu : ∀ b ∈ W, MutO H0 b) : Yld K (ItvT K a vs.length) H0 W xs.reverse := fun H k => by
  have kp : Kept W H0 H := ⟨k, mu⟩
  have hs' := kp.sqT hs
  have rp' := rp.keep kp
  have hl := rp.length
  refine ⟨fun i hi => ?_, fun i hi => by rw [List.length_reverse] at hi; show vs.length ≤ i; omega⟩
  rw [List.length_reverse] at hi
  have hj : vs.length - 1 - i < xs.length := by omega
  obtain ⟨v, hv, hr⟩ := rp'.get (List.getElem?_eq_getElem hj)
  refine ⟨⟨by omega, vs, v, hs', hv⟩, fun x H' y => ?_⟩
  obtain ⟨e, y⟩ := y
  subst e
  have := y vs hs'
  rw [hv] at this; cases this
  refine ⟨Same.refl _, _, ?_, hr⟩
  rw [List.getElem?_reverse (by omega), ← List.getElem?_eq_getElem hj]
  congr 1
  omega
theorem vi_rev (he : VE X e f) (hg : Gl X "reversed") (hm : X.mg "reversed" = none) (hs : starEach [e] X.env = (false, eval e X.env) :: starEach [] X.env := by rfl) : VI X tg (.Call (.Name "reversed" p) [e] [] pos) (iRevF f) :=
  (pi_revA hg hm he hs).pwi fun σ H R ⟨P, ρ, W, Rq, G, q, k⟩ => ⟨P, ρ, W, _, G, q, fun v H1 o ρ1 r1 h1 => by
    obtain ⟨ws, W1, G1, st, nd, rp⟩ := r1.good G
    split at h1
    · rename_i xs
      obtain ⟨a, us, e1, la, hr⟩ := ls_of (t := .ls xs) rfl rp nd
      subst e1
      exact ⟨a, us, rfl, .inl ⟨la.kept ⟨fun _ _ h _ => h, G1.mut⟩, k _ _ _ ρ1 ⟨W1, st.drop, G1, yld_rev la hr G1.mut⟩ h1⟩⟩
    · rename_i xs
      obtain ⟨a, us, e1, la, hr⟩ := ls_of (t := .d (.list xs)) rfl rp nd
      subst e1
      exact ⟨a, us, rfl, .inl ⟨la.kept ⟨fun _ _ h _ => h, G1.mut⟩, k _ _ _ ρ1 ⟨W1, st.drop, G1, yld_rev la hr G1.mut⟩ h1⟩⟩
    · rename_i xs
      obtain ⟨⟨a, us, e1, ha, hr⟩, _⟩ := rp
      subst e1
      exact ⟨a, us, rfl, .inr ⟨ha, k _ _ _ ρ1 ⟨W1, st.drop, G1, yld_revT ha hr G1.mut⟩ h1⟩⟩
    · exact h1.elim⟩
end
end PW
end PwI
section PwG
set_option maxRecDepth 100000
/-! PwG: what the generator's terms lean on: calls by contract, and / or as values, chains. -/
namespace PW
open PySem PySem.Spec L2
open PyProof.Rows hiding St

/-- a def that may be called by its name -/
structure Cal (Pg : Program) (w : World) (K : PySem.W.Frag) (mg : Str → Option Value) (base : Heap) (k n : Nat) (x : Str) (S : FS) (dfs : List D) : Prop where
  ex : ∃ (fa : Addr) (fd : FuncData) (ps : List Str) (dV : List Value) (dvs : List V), FnOk Pg w K mg base CX0 k fa fd ps (spO K n S) ∧ mg x = some (.ref fa) ∧ PySem.W.keepIn K (.ref fa) = true ∧ Binds K fd ps dV ∧ Vals dvs dV ∧ ∀ H, RepDs K H dfs dvs
theorem FnOk.cal {Pg : Program} {w : World} {K : PySem.W.Frag} {mg : Str → Option Value} {base : Heap} {k n : Nat} {x : Str} {S : FS} {fa : Addr} {fd : FuncData} {ps : List Str} (F : FnOk Pg w K mg base CX0 k fa fd ps (spO K n S)) (hm : mg x = some (.ref fa)) (hk : PySem.W.keepIn K (.ref fa) = true) (hb : Binds K fd ps []) : Cal Pg w K mg base k n x S [] :=
  ⟨fa, fd, ps, [], [], F, hm, hk, hb, .nil, fun _ => rfl⟩
section
variable {X : Cx} {e a b c : Expr} {es : List Expr} {pos p : Pos} {f fa fb fc : TF} {fs : TAF}
theorem vcall {k j n : Nat} {x : Str} {S : FS} {dfs : List D} {ms : List Md} (cl : Cal X.prog X.w X.K X.mg X.base k n x S dfs) (hr : Room j X.A) (hk : k ≤ j) (hg : Gl X x) (hn : ms.length + dfs.length = n) (ha : VA X (e :: es) fs) (hdb : (x == ("__debug__" : Str)) = false := by decide)
    (he : starEach (e :: es) X.env = (false, eval e X.env) :: starEach es X.env := by rfl) (hpl : (backTo pos (starEach es X.env)).any (·.1) = false := by rfl) : VE X (.Call (.Name x p) (e :: es) [] pos) (fCall S ms dfs fs) := by
  obtain ⟨fa, fd, ps, dV, dvs, F, hm, hk', hb, hd, rd⟩ := cl.ex
  exact ve_call F (hr.mono hk) hg hm hk' hb hd rd hn ha hdb he hpl
/-! ### and, or, not as values: all but the last are truths -/
def fAndV (f g : TF) : TF := fun ρ Q => f ρ fun o ρ1 => match o with
  | .val (.d (.bool c)) => if c = true then g ρ1 Q else Q (.val (.d (.bool false))) ρ1
  | _ => False
def fOrV (f g : TF) : TF := fun ρ Q => f ρ fun o ρ1 => match o with
  | .val (.d (.bool c)) => if c = true then Q (.val (.d (.bool true))) ρ1 else g ρ1 Q
  | _ => False
def fNotV (f : TF) : TF := fun ρ Q => f ρ fun o ρ1 => match o with
  | .val (.d (.bool c)) => Q (.val (.d (.bool (!c)))) ρ1
  | _ => False
theorem ve_one {op : BoolOp} (h : VE X a f) : VE X (.BoolOp op [a] pos) f := pe_one h
/-- going on behind an expression whose value is scalar -/
theorem go_on {K : PySem.W.Frag} {P : Addr → Prop} {ρ1 : List Slot} {σ : St} {H H1 : Hp} {W W1 : List Addr} {R : Opv → List Slot → Prop} {Q : VK} {g : TF} (st : Step W W1 H H1) (G1 : Good K P H1 ρ1 σ W1) (k : ∀ v H' o ρ', Res K P H σ W v H' o ρ' → R o ρ' → Q v H') (h : g ρ1 R) : tO K g σ H1 Q :=
  ⟨P, ρ1, W1, R, G1, h, fun v H2 o ρ2 ⟨ws, W2, st2, nd2, sr2, rp2⟩ h2 => k _ _ _ _ ⟨ws, W2, by simpa using st.trans (ws := []) st2 (by simpa using G1.nd), nd2, sr2, rp2⟩ h2⟩
theorem ve_and (ha : VE X a fa) (hb : VE X (.BoolOp .And (b :: es) pos) fb) : VE X (.BoolOp .And (a :: b :: es) pos) (fAndV fa fb) := (pe_and ha hb).pwi fun σ H Q ⟨P, ρ, W, R, G, q, k⟩ => ⟨P, ρ, W, _, G, q, fun v H1 o ρ1 r1 h1 => by
  obtain ⟨ws, W1, G1, st, nd, rp⟩ := r1.good G
  split at h1
  · rename_i c
    have ev : v = .bl c := rp.1
    subst ev
    refine ⟨c, rfl, ?_⟩
    cases c with
    | true => rw [if_pos rfl] at h1; exact iteT (go_on st.drop G1 k h1)
    | false => rw [if_neg Bool.false_ne_true] at h1; exact iteF (k _ _ (.val (.d (.bool false))) _ ⟨[], W1, by simpa using st.drop, by simpa using G1.nd, G1.sr, ⟨rfl, rfl⟩⟩ h1)
  · exact h1.elim⟩
theorem ve_or (ha : VE X a fa) (hb : VE X (.BoolOp .Or (b :: es) pos) fb) : VE X (.BoolOp .Or (a :: b :: es) pos) (fOrV fa fb) := (pe_or ha hb).pwi fun σ H Q ⟨P, ρ, W, R, G, q, k⟩ => ⟨P, ρ, W, _, G, q, fun v H1 o ρ1 r1 h1 => by
  obtain ⟨ws, W1, G1, st, nd, rp⟩ := r1.good G
  split at h1
  · rename_i c
    have ev : v = .bl c := rp.1
    subst ev
    refine ⟨c, rfl, ?_⟩
    cases c with
    | true => rw [if_pos rfl] at h1; exact iteT (k _ _ (.val (.d (.bool true))) _ ⟨[], W1, by simpa using st.drop, by simpa using G1.nd, G1.sr, ⟨rfl, rfl⟩⟩ h1)
    | false => rw [if_neg Bool.false_ne_true] at h1; exact iteF (go_on st.drop G1 k h1)
  · exact h1.elim⟩
theorem ve_notV (ha : VE X a fa) : VE X (.UnaryOp .Not a pos) (fNotV fa) := (pe_not ha).pwi fun σ H Q ⟨P, ρ, W, R, G, q, k⟩ => ⟨P, ρ, W, _, G, q, fun v H1 o ρ1 r1 h1 => by
  obtain ⟨ws, W1, G1, st, nd, rp⟩ := r1.good G
  split at h1
  · rename_i c
    have ev : v = .bl c := rp.1
    subst ev
    exact ⟨c, rfl, k _ _ (.val (.d (.bool (!c)))) _ ⟨[], W1, by simpa using st.drop, by simpa using G1.nd, G1.sr, ⟨rfl, rfl⟩⟩ h1⟩
  · exact h1.elim⟩
/-! ### module constants -/
theorem ve_glob {x : Str} {d : D} (h : ∃ (v : V) (u : Value), X.mg x = some u ∧ RelV v u ∧ ∀ H, RepD X.K H d v) (hg : Gl X x := by rfl) (hd : (x == ("__debug__" : Str)) = false := by decide) : VE X (.Name x pos) (fCst d) := by
  obtain ⟨v, u, hm, r, rd⟩ := h
  exact ve_cst (pe_glob hg hm r hd) rd
end
/-! ### the law's own promise -/
def S_law : FS := fun ss R => ∃ ns : List Int, ss = [.own (.d (.list (ns.map .int)))] ∧ ns.length ≤ 63 ∧ ∀ fin, R (.d (.bool true)) fin
theorem rep_ints {K : PySem.W.Frag} {H : Hp} : ∀ ns : List Int, RepDs K H (ns.map .int) (ns.map V.int)
  | [] => rfl
  | n :: ns => ⟨.int n, _, rfl, rfl, rep_ints ns⟩
theorem law_sp {K : PySem.W.Frag} {H : Hp} {a : Addr} {ns : List Int} (hn : ns.length ≤ 63) (hO : Only H) (hS : SqL K H a (ns.map V.int)) (E : XK) : spO K 1 S_law [.ref a] H (fun v _ => v = .bl true) E := by
  have hz : SqZ K H a (ns.map V.int) := by
    rcases hS with (h | ⟨o, h⟩) | h
    · rcases hO a with z | ⟨o, xs, z⟩
      · rw [h] at z; cases z
      · rw [h] at z; cases z
    · exact .inl ⟨o, h⟩
    · exact .inr h
  refine ⟨rfl, fun _ => False, [.own (.d (.list (ns.map .int)))], [], fun t _ => t = .d (.bool true), ⟨⟨.ref a, [], [], [], rfl, ⟨⟨a, _, rfl, hz, rep_ints ns⟩, rfl⟩, ⟨rfl, rfl⟩, rfl⟩, by simp, fun _ h => h.elim⟩, ⟨ns, rfl, hn, fun _ => rfl⟩, fun r H' t fin ws W' _ _ _ rp ht => ?_⟩
  subst ht
  exact rp.1
theorem law_walk {l : PySem.W.OpenLaw} {q : Program} {loose : List Str} {XP : (Str → Option Value) → Heap → Prop} {YP : World → Heap → Prop} {d : DefRec} {K : Params → PySem.W.Frag} {k : Nat} {x : Str} (hn : l.most = some 63) (hdf : d.params.defaults = []) (hr : Room k callerA)
    (hY : ∀ (w : World) (h : Heap), YP w h → (K w.params).In h)
    (F : ∀ (w : World) (mg : Str → Option Value) (fa : Addr) (h : Heap), (K w.params).In h → h.Ns mainGlobals mg → mg d.name = some (.ref fa) →
      ∃ fd : FuncData, (∀ (s : Shared) (u : Value), BindsTo s fd ⟨[u], []⟩ [(x, u)]) ∧ ∀ base : Heap, (K w.params).In base → base.Ns mainGlobals mg → FnOk l.prog w (K w.params) mg base CX0 k fa fd [x] (spO (K w.params) 1 S_law)) :
    PySem.W.WalkO q loose XP YP l.row.toRowW d [] (fun f vs => PySem.call f vs) :=
  L2.walk_of (n := 63) (k := k) (x := x) (CX := fun _ => CX0) (sp := fun w => spO (K w.params) 1 S_law) hn (by decide) hdf hr hY F (fun _ _ a ns hl hO hS => law_sp hl hO hS _) fun _ _ _ _ _ z => z
end PW
end PwG
section PwH
set_option maxRecDepth 100000
/-! PwH: what the pure proofs lean on: loops by invariants, items of lists. -/
namespace PW
open PySem L2
open PyProof.Rows hiding St

/-- a loop by what holds ahead of each turn -/
theorem lp_at {g : GF} {sb : SF} {E : Es} {xs : List D} {ρ : List Slot} (I : Nat → List Slot → Prop) (h0 : I 0 ρ) (hd : ∀ ρ, I xs.length ρ → E.nx ρ)
    (hs : ∀ i x ρ (k : List Slot → Prop), xs[i]? = some x → I i ρ → (∀ ρ', I (i + 1) ρ' → k ρ') → g (.d x) ρ fun ρ1 => sb { nx := k, ct := k, bk := E.nx, rt := E.rt, xe := E.xe } ρ1) : lp g sb E xs ρ := by
  have go : ∀ (ys : List D) (i : Nat) (ρ : List Slot), xs.drop i = ys → I i ρ → i ≤ xs.length → lp g sb E ys ρ := by
    intro ys
    induction ys with
    | nil =>
      intro i ρ e hi hl
      have : xs.length ≤ i := List.drop_eq_nil_iff.mp e
      have : i = xs.length := by omega
      subst this
      exact hd ρ hi
    | cons y ys ih =>
      intro i ρ e hi hl
      have hlt : i < xs.length := by
        rcases Nat.lt_or_ge i xs.length with z | z
        · exact z
        · rw [List.drop_eq_nil_of_le z] at e; cases e
      rw [List.drop_eq_getElem_cons hlt] at e
      injection e with e1 e2
      have hy : xs[i]? = some y := by rw [List.getElem?_eq_getElem hlt, e1]
      show g (.d y) ρ fun ρ1 => sb { nx := lp g sb E ys, ct := lp g sb E ys, bk := E.nx, rt := E.rt, xe := E.xe } ρ1
      exact hs i y ρ _ hy hi fun ρ' h' => ih (i + 1) ρ' e2 h' hlt
  exact go xs 0 ρ rfl h0 (Nat.zero_le _)
/-- a comprehension by what holds ahead of each turn -/
theorem lpC_at {vs : List Nat} {g : GF} {tt : TTF} {fe : TF} {xs : List D} {ρ : List Slot} {Q : List D → List Slot → Prop} (I : Nat → List D → List Slot → Prop) (h0 : I 0 [] ρ) (hz : xs.length ≤ sizeLine) (hd : ∀ acc ρ, I xs.length acc ρ → Q acc ρ)
    (hs : ∀ i x acc ρ (k1 : D → List Slot → Prop) (k2 : List Slot → Prop), xs[i]? = some x → I i acc ρ → (∀ y ρ', I (i + 1) (acc ++ [y]) ρ' → k1 y ρ') → (∀ ρ', I (i + 1) acc ρ' → k2 ρ') →
      g (.d x) ρ fun ρ1 => tt ρ1 fun b ρ2 => if b = true then fe ρ2 fun o ρ3 => match o with
        | .val (.d y) => k1 y (killS vs ρ3)
        | _ => False
      else k2 (killS vs ρ2)) : lpC vs g tt fe xs [] ρ Q := by
  have go : ∀ (ys : List D) (i : Nat) (acc : List D) (ρ : List Slot), xs.drop i = ys → I i acc ρ → i ≤ xs.length → acc.length ≤ i → lpC vs g tt fe ys acc ρ Q := by
    intro ys
    induction ys with
    | nil =>
      intro i acc ρ e hi hl _
      have : xs.length ≤ i := List.drop_eq_nil_iff.mp e
      have : i = xs.length := by omega
      subst this
      exact hd acc ρ hi
    | cons y ys ih =>
      intro i acc ρ e hi hl ha
      have hlt : i < xs.length := by
        rcases Nat.lt_or_ge i xs.length with z | z
        · exact z
        · rw [List.drop_eq_nil_of_le z] at e; cases e
      rw [List.drop_eq_getElem_cons hlt] at e
      injection e with e1 e2
      have hy : xs[i]? = some y := by rw [List.getElem?_eq_getElem hlt, e1]
      have := hs i y acc ρ (fun y' ρ' => acc.length < sizeLine ∧ lpC vs g tt fe ys (acc ++ [y']) ρ' Q) (fun ρ' => lpC vs g tt fe ys acc ρ' Q) hy hi
        (fun y' ρ' h' => ⟨by omega, ih (i + 1) _ ρ' e2 h' hlt (by rw [List.length_append, List.length_singleton]; omega)⟩) fun ρ' h' => ih (i + 1) acc ρ' e2 h' hlt (by omega)
      exact this
  exact go xs 0 [] ρ rfl h0 (Nat.zero_le _) (Nat.zero_le _)
/-- a comprehension whose turns leave the slots: each item's value, or none -/
theorem lpC_fm {vs : List Nat} {g : GF} {tt : TTF} {fe : TF} {xs : List D} {ρ : List Slot} {Q : List D → List Slot → Prop} (fn : D → Option D) (hz : xs.length ≤ sizeLine) (hd : Q (xs.filterMap fn) ρ)
    (hs : ∀ x (k1 : D → List Slot → Prop) (k2 : List Slot → Prop), x ∈ xs → (∀ y, fn x = some y → k1 y ρ) → (fn x = none → k2 ρ) →
      g (.d x) ρ fun ρ1 => tt ρ1 fun b ρ2 => if b = true then fe ρ2 fun o ρ3 => match o with
        | .val (.d y) => k1 y (killS vs ρ3)
        | _ => False
      else k2 (killS vs ρ2)) : lpC vs g tt fe xs [] ρ Q := by
  refine lpC_at (fun i acc ρ' => acc = (xs.take i).filterMap fn ∧ ρ' = ρ) ⟨by simp, rfl⟩ hz (fun acc ρ' ⟨e1, e2⟩ => by rw [e1, e2, List.take_length]; exact hd) ?_
  rintro i x acc ρ' k1 k2 hx ⟨rfl, rfl⟩ h1 h2
  have ht : xs.take (i + 1) = xs.take i ++ [x] := by rw [List.take_add_one, hx]; rfl
  refine hs x k1 k2 (List.mem_of_getElem? hx) (fun y hy => h1 y _ ⟨?_, rfl⟩) fun hn => h2 _ ⟨?_, rfl⟩
  · rw [ht, List.filterMap_append]; simp [hy]
  · rw [ht, List.filterMap_append]; simp [hn]
theorem lpC_map {vs : List Nat} {g : GF} {fe : TF} {xs : List D} {ρ : List Slot} {Q : List D → List Slot → Prop} (fn : D → D) (hz : xs.length ≤ sizeLine) (hd : Q (xs.map fn) ρ)
    (hs : ∀ x (k1 : D → List Slot → Prop), x ∈ xs → k1 (fn x) ρ → g (.d x) ρ fun ρ1 => fe ρ1 fun o ρ3 => match o with
        | .val (.d y) => k1 y (killS vs ρ3)
        | _ => False) : lpC vs g tYesF fe xs [] ρ Q := by
  refine lpC_at (fun i acc ρ' => acc = (xs.take i).map fn ∧ ρ' = ρ) ⟨by simp, rfl⟩ hz (fun acc ρ' ⟨e1, e2⟩ => by rw [e1, e2, List.take_length]; exact hd) ?_
  rintro i x acc ρ' k1 k2 hx ⟨rfl, rfl⟩ h1 h2
  have ht : xs.take (i + 1) = xs.take i ++ [x] := by rw [List.take_add_one, hx]; rfl
  have := hs x k1 (List.mem_of_getElem? hx) (h1 _ _ ⟨by rw [ht, List.map_append]; rfl, rfl⟩)
  unfold tYesF
  simpa using this
theorem atI0 {α : Type} (x : α) (l : List α) : atI (x :: l) 0 = some x := atI_nat (j := 0) rfl
theorem atI1 {α : Type} (x y : α) (l : List α) : atI (x :: y :: l) 1 = some y := atI_nat (j := 1) rfl
theorem atI2 {α : Type} (x y z : α) (l : List α) : atI (x :: y :: z :: l) 2 = some z := atI_nat (j := 2) rfl
theorem atI_of {α : Type} {l : List α} {k : Int} {x : α} (h0 : 0 ≤ k) (h : l[k.toNat]? = some x) : atI l k = some x := by
  have := atI_nat h
  rwa [Int.toNat_of_nonneg h0] at this
theorem at_ints {ns : List Int} {k : Int} (h0 : 0 ≤ k) (h1 : k < ns.length) : ∃ z, atI (ns.map PyData.int) k = some (.int z) := by
  have : k.toNat < ns.length := by omega
  exact ⟨ns[k.toNat], atI_of h0 (by rw [List.getElem?_map, List.getElem?_eq_getElem this]; rfl)⟩
theorem at_pick {α : Type} {x y : α} {c : Prop} [Decidable c] : atI [x, y] (if c then 1 else 0) = some (if c then y else x) := by
  by_cases h : c
  · rw [if_pos h, if_pos h]; exact atI1 x y []
  · rw [if_neg h, if_neg h]; exact atI0 x [y]
theorem atI_neg1 {α : Type} {l : List α} {x : α} : atI (l ++ [x]) (-1) = some x := atI_last l x
theorem fin1 (fx : List Nat) (a : Slot) (r : List Slot) : finS fx 1 (a :: r) = [if 0 ∈ fx then a else .un] := rfl
theorem fin2 (fx : List Nat) (a b : Slot) (r : List Slot) : finS fx 2 (a :: b :: r) = [if 0 ∈ fx then a else .un, if 1 ∈ fx then b else .un] := rfl
theorem upto_mem {lo : Int} {n : Nat} {x : D} (h : x ∈ upto lo n) : ∃ i : Nat, i < n ∧ x = .int (lo + i) := by
  obtain ⟨i, hi⟩ := List.mem_iff_getElem?.mp h
  have hlt : i < n := by
    have := (List.getElem?_eq_some_iff.mp hi).1
    rwa [upto_length] at this
  rw [upto_get n lo i hlt] at hi
  exact ⟨i, hlt, (Option.some.inj hi).symm⟩
theorem upto_at {lo : Int} {n i : Nat} {x : D} (h : (upto lo n)[i]? = some x) : i < n ∧ x = .int (lo + i) := by
  have hlt : i < n := by
    have := (List.getElem?_eq_some_iff.mp h).1
    rwa [upto_length] at this
  rw [upto_get n lo i hlt] at h
  exact ⟨hlt, (Option.some.inj h).symm⟩
end PW
end PwH
section PwS
set_option maxRecDepth 100000
/-! PwS: star targets. -/
namespace PW
open PySem PySem.Spec L2
open PyProof.Rows hiding St
section
variable {X : Cx} {pos : Pos}
/-- (.., *r, ..) = a tuple: i ahead of the star, n targets -/
def gStarL (K : PySem.W.Frag) (n i : Nat) (t : TGs) : TG := fun v σ H Q => ∃ a xs, v = .ref a ∧ SqT K H a xs ∧ n ≤ xs.length + 1 ∧ xs.length ≤ 16384 ∧
  ∀ p, H p = none → t (xs.take i ++ [.ref p] ++ (xs.drop i).drop (xs.length + 1 - n)) σ (upd H p (.lst ((xs.drop i).take (xs.length + 1 - n)))) Q
theorem Vals.take {xs : List V} {us : List Value} (h : Vals xs us) (n : Nat) : Vals (xs.take n) (us.take n) := by
  induction h generalizing n with
  | nil => simpa using .nil
  | cons r _ ih => cases n with
    | zero => simpa using .nil
    | succ n => exact .cons r (ih n)
theorem Vals.drop {xs : List V} {us : List Value} (h : Vals xs us) (n : Nat) : Vals (xs.drop n) (us.drop n) := by
  induction h generalizing n with
  | nil => simpa using .nil
  | cons r t ih => cases n with
    | zero => exact .cons r t
    | succ n => exact ih n
theorem Vals.app {xs ys : List V} {us ws : List Value} (h : Vals xs us) (g : Vals ys ws) : Vals (xs ++ ys) (us ++ ws) := by
  induction h with
  | nil => exact g
  | cons r t ih => exact .cons r ih
theorem pgs_starred {e : Expr} {es : List Expr} {p : Pos} {t : TG} {u : TGs} (h1 : PG X e t) (h2 : PGs X es u) : PGs X (.Starred e p :: es) (gCons t u) := by
  refine ⟨fun pins s σ H vs us Q I r h => ?_⟩
  obtain ⟨v, vr, e1, h⟩ := h
  subst e1
  cases r with
  | cons r rr =>
    refine assignInOrder_cons (thn (h1.run pins s σ H _ _ _ I r h) fun _ s1 ⟨σ1, H1, I1, q1⟩ => ?_)
    exact h2.run pins s1 σ1 H1 _ _ Q I1 rr q1
theorem pg_star {es : List Expr} {k : Nat} {t : TGs} {n i : Nat} (hc : X.calm = true) (h : PGs X es t)
    (hn : (assignEach es X.env).length = n := by rfl) (hst : (assignEach es X.env).findIdx? (·.1) = some i := by rfl) (hi : i < n := by decide) : PG X (.Tuple es k pos) (gStarL X.K n i t) := by
  refine ⟨fun pins s σ H v u Q I r hw => ?_⟩
  obtain ⟨a, xs, e1, hq, hl, hz, hw⟩ := hw
  subst e1
  cases r
  obtain ⟨its, rv, ht, _⟩ := I.tuple hq
  have hh : X.A.handled = none := I.ok.hd hc
  have hlt : a ≠ s.heap.objs.size := by obtain ⟨o, ho, _⟩ := ht; exact Nat.ne_of_lt (Heap.lt_size ho)
  have hxs : xs.length = its.length := rv.length
  rw [assign_Tuple]
  refine wpAny_bind (wpAny_standAt ?_)
  unfold unpack
  rw [hn, hst]
  refine wpAny_bind (wpAny_holding ?_)
  unfold unpackItems
  refine wpAny_bind ?_
  unfold notIterableAtAll
  refine wpAny_bind (wpAny_specialOf ht.typeIs slot_tuple_iter.lookup ?_)
  refine wpAny_pure ?_
  simp only [Bool.false_eq_true, if_false]
  refine wpAny_bind (wpAny_holding (iter_tuple ht ?_))
  refine wpAny_bind (wpAny_holding (draw_tuple hlt i 0 _ _ ⟨_, Heap.get?_push_size _ rfl, rfl, rfl⟩ (ht.push _) (by simp; omega) fun h₁ hit₁ hs₁ => ?_))
  have hl₁ : IsTup h₁ a its.toArray := (ht.push _).extBut hs₁.extBut hlt
  rw [Nat.zero_add] at hit₁
  have hit₁' := hit₁
  obtain ⟨oi, hoi, _⟩ := hit₁'
  have hl₁' := hl₁
  obtain ⟨ol, hol, _⟩ := hl₁'
  rw [List.drop_zero]
  simp only [List.toList_toArray]
  have hfl : (its.take i).length = i := by rw [List.length_take]; omega
  rw [if_neg (show ¬ ((its.take i).length < i) by rw [hfl]; omega)]
  refine wpAny_bind (wpAny_holding (PySem.W.kun_collect (s := { s with heap := h₁ }) (T := "tuple_iterator") (.inr (.inr (.inr rfl))) (Walks.tuple (A := X.A.in1) hh s.heap.objs.size a hlt its.toArray) (fun j u st => st.1.typeIs) (k := i) (by simp; omega) ⟨hit₁, hl₁⟩ (Heap.lt_size hoi) (Heap.lt_size hol) (fun h₂ tk hk => ?_) (by rw [sizeLine_eq]; simp; omega)))
  simp only [List.toList_toArray]
  have hrl : (its.drop i).length = its.length - i := List.length_drop
  have hmid : (its.drop i).length - (n - 1 - i) = its.length + 1 - n := by rw [hrl]; omega
  rw [if_neg (by rw [hrl]; omega)]
  rw [hmid]
  have he : ∀ b o, s.heap.get? b = some o → h₂.get? b = some o := fun b o e => hk b o (Nat.ne_of_lt (Heap.lt_size e)) (hs₁.extBut b o (Nat.ne_of_lt (Heap.lt_size e)) (Heap.get?_push_of_some _ e))
  have I2 : Inv X pins σ H { s with heap := h₂, toks := tk } := I.kept he
  have hlen : ((its.drop i).take (its.length + 1 - n)).length ≤ sizeLine := by rw [List.length_take, hrl, sizeLine_eq]; omega
  refine wpAny_bind (wpAny_newObj_type ?_ (by show _ ≤ sizeLine; simpa using hlen))
  have hf : H h₂.objs.size = none := I2.hok.fresh (Nat.le_refl _)
  refine wpAny_pure ?_
  have := hw h₂.objs.size hf
  rw [hxs] at this
  refine h.run pins _ σ (upd H h₂.objs.size (.lst ((xs.drop i).take (its.length + 1 - n)))) _ _ Q (I2.laid (t' := tk) (fun b u e => Heap.get?_push_of_some _ e) (Nat.le_refl _) ?_) ?_ this
  · exact ⟨by rw [List.length_take, List.length_drop, sizeLine_eq]; omega, (its.drop i).take (its.length + 1 - n), 0, Vals.take (Vals.drop rv i) _, Heap.get?_push_size _ rfl⟩
  · exact Vals.app (Vals.app (Vals.take rv i) (.cons rfl .nil)) (Vals.drop (Vals.drop rv i) _)
end

section
variable {X : Cx} {fx : List Nat} {e : Expr} {es : List Expr} {pos : Pos}
/-- (head, *rest) = a tuple: the rest is a new list -/
def gHd (g : GF) (j : Nat) : GF := fun t ρ R => match t with
  | .d (.tuple (x :: r)) => r.length < 16384 ∧ g (.d x) ρ fun ρ1 => R (ρ1.set j (.own (.ls r)))
  | _ => False
theorem vg_hd {k j : Nat} {x : Str} {p p2 : Pos} {g : GF} (hc : X.calm = true) (hN : X.N.Nodup) (hj : X.N[j]? = some x) (hx : Loc X.env.scope x) (h : VG X fx e g) (hf : j ∉ fx)
    (hl : X.fn x = true ∨ X.env.scope.names.lookup x = some .local := by first | exact .inl rfl | exact .inr rfl)
    (hs : (assignEach [e, .Starred (.Name x p2) p] X.env).map (·.2) = assign e X.env :: (assignEach [.Starred (.Name x p2) p] X.env).map (·.2) := by rfl)
    (hn : (assignEach [e, .Starred (.Name x p2) p] X.env).length = 2 := by rfl) (hst : (assignEach [e, .Starred (.Name x p2) p] X.env).findIdx? (·.1) = some 1 := by rfl) : VG X fx (.Tuple [e, .Starred (.Name x p2) p] k pos) (gHd g j) :=
  PG.pwI (pg_star hc (pgs_cons h (pgs_starred (pg_name hN hj hx hl) pgs_nil) hs) hn hst) fun pins s v σ H Q I ⟨P, ρ, W, ws, t, R, sr, nd, ap, rp, q, kQ⟩ => by
    unfold gHd at q
    split at q
    · rename_i x0 r
      obtain ⟨⟨a, vs, e1, hsq, v0, vr, e2, h0, hr⟩, ew⟩ := rp
      subst e1 ew e2
      have hlen : vr.length = r.length := hr.length
      refine ⟨a, _, rfl, hsq, by simp, by rw [List.length_cons, hlen]; omega, fun pa hp => ?_⟩
      have e3 : (v0 :: vr).length + 1 - 2 = vr.length := by simp
      rw [e3]
      simp only [List.take_succ_cons, List.take_zero, List.drop_succ_cons, List.drop_zero, List.take_length, List.drop_length, List.cons_append, List.nil_append]
      have nd' : W.Nodup := by simpa using nd
      have mu : ∀ b ∈ W, MutO H b := sr.mut
      have pW : pa ∉ W := fun z => by obtain ⟨o, ho⟩ := (mu pa z).there; rw [hp] at ho; cases ho
      have sm : Same H (upd H pa (.lst vr)) := same_upd hp
      have kp : Kept [] H (upd H pa (.lst vr)) := Kept.same sm
      refine ⟨v0, [.ref pa], rfl, P, ρ, W, [], .d x0, _, sr.after (W0 := []) (fun b o h _ => sm b o h) (by simp) (by simp) (by simp), by simpa using nd', fun b hb => ⟨by simpa using (ap b hb).1, let ⟨o, ho⟩ := (ap b hb).2; ⟨o, sm _ _ ho⟩⟩, ⟨h0.keep kp, rfl⟩, q.2, fun σ1 H1 ρ1 r1 h1 => ?_⟩
      obtain ⟨W1, st, G1, hx1⟩ := r1
      rw [List.nil_append] at st
      have h1p : H1 pa = some (.lst vr) := st.keep pa _ upd_same pW
      have p1 : pa ∉ W1 := fun z => by
        rcases st.new pa z with z | z
        · exact pW z
        · rw [upd_same] at z; cases z
      have hr1 : RepDs X.K H1 r vr := (hr.keep kp).keep ⟨st.keep, fun b hb => by
        rcases mu b hb with ⟨xs, z⟩ | ⟨xs, z⟩ | ⟨C, dx, vs, z⟩ | ⟨a, z⟩
        · exact .inl ⟨xs, sm _ _ z⟩
        · exact .inr (.inl ⟨xs, sm _ _ z⟩)
        · exact .inr (.inr (.inl ⟨_, _, _, sm _ _ z⟩))
        · exact .inr (.inr (.inr ⟨_, sm _ _ z⟩))⟩
      have st2 : Step W ([pa] ++ W1) H H1 := ⟨fun b o h hb => st.keep b o (sm _ _ h) hb, fun b hb => by
        rcases List.mem_cons.mp (show b ∈ pa :: W1 from hb) with z | z
        · subst z; exact .inr hp
        · rcases st.new b z with z | z
          · exact .inl z
          · refine .inr ?_
            cases q2 : H b with
            | none => rfl
            | some o => rw [sm _ _ q2] at z; cases z⟩
      have hjl : j < σ1.length := by rw [hx1.2, I.len]; exact (List.getElem?_eq_some_iff.mp hj).1
      refine ⟨_, _, rfl, rfl, kQ _ _ _ ?_ h1⟩
      rw [List.nil_append]
      refine put_core (ws := [pa]) (W1 := W1) (t := .ls r) (fun b hb => ⟨fun z => ?_, (G1.ap b hb).2⟩) st2 (nd_mk (by simp) G1.nd fun y hy => by
        have : y = pa := by simpa using hy
        subst this; exact p1) G1.sr ⟨pa, vr, rfl, h1p, hr1, rfl⟩ hjl hf hx1
      rcases List.mem_cons.mp (show b ∈ pa :: W1 from z) with z | z
      · subst z
        obtain ⟨o, ho⟩ := (ap b hb).2
        rw [hp] at ho; cases ho
      · exact (G1.ap b hb).1 z
    · exact q.elim
end
end PW
end PwS
section PwT
set_option maxRecDepth 100000
/-! PwT: more operators: texts, tuples, slices, membership, counting. -/
namespace PW
open PySem PySem.Spec L2
open PyProof.Rows hiding St
section
variable {X : Cx} {a b e : Expr} {es : List Expr} {pos : Pos} {f fa fb : TF} {fs : TAF} {vs : List V} {H : Hp} {K : PySem.W.Frag}

def oCatS : OF := fun ts R => match ts with
  | [.d (.str x), .d (.str y)] => x.length + y.length ≤ sizeLine ∧ R (.d (.str (x ++ y)))
  | _ => False
theorem oc_catS : OpOk K oCatS fun vs H Q => ∃ x y, vs = [x, y] ∧ ∃ i j, x = .str i ∧ y = .str j ∧ i.length + j.length ≤ sizeLine ∧ Q (.str (i ++ j)) H := by
  intro ts vs H Q R b h k
  unfold oCatS at h
  split at h
  · rename_i x y
    obtain ⟨v, w, _, _, e, ⟨h1, _⟩, ⟨h2, _⟩⟩ := b2 b
    have h1 : v = .str x := h1
    have h2 : w = .str y := h2
    subst h1 h2
    exact ⟨_, _, e, x, y, rfl, rfl, h.1, k _ _ (.d (.str (x ++ y))) [] (Same.refl _) nofresh (by simp) ⟨rfl, rfl⟩ h.2⟩
  · exact h.elim
theorem ve_catS (ha : VE X a fa) (hb : VE X b fb) : VE X (.BinOp a .Add b pos) (fOp oCatS (fCons fa (fCons fb fNil))) := ve_bin op_add_str oc_catS ha hb
def oCatT : OF := fun ts R => match ts with
  | [.d (.tuple x), .d (.tuple y)] => x.length + y.length ≤ sizeLine ∧ R (.d (.tuple (x ++ y)))
  | _ => False
theorem oc_catT : OpOk K oCatT fun vs H Q => ∃ x y, vs = [x, y] ∧ rCatA K x y H Q := by
  intro ts vs H Q R b h k
  unfold oCatT at h
  split at h
  · rename_i x y
    obtain ⟨v, w, _, _, e, ⟨⟨a1, us, e1, s1, r1⟩, _⟩, ⟨⟨a2, us2, e2, s2, r2⟩, _⟩⟩ := b2 b
    subst e1 e2
    refine ⟨_, _, e, a1, a2, us, us2, rfl, rfl, s1, s2, by rw [r1.length, r2.length]; exact h.1, fun z => ?_, fun z1 z2 => ?_, fun z1 z2 p hp => ?_⟩
    · subst z
      cases x with
      | cons _ _ => obtain ⟨_, _, z, _⟩ := r1; cases z
      | nil => exact k _ _ (.d (.tuple y)) [] (Same.refl _) nofresh (by simp) ⟨⟨a2, us2, rfl, s2, r2⟩, rfl⟩ h.2
    · subst z2
      cases y with
      | cons _ _ => obtain ⟨_, _, z, _⟩ := r2; cases z
      | nil => exact k _ _ (.d (.tuple x)) [] (Same.refl _) nofresh (by simp) ⟨⟨a1, us, rfl, s1, r1⟩, rfl⟩ (by simpa using h.2)
    · exact k _ _ (.d (.tuple (x ++ y))) [] (same_upd hp) nofresh (by simp) ⟨⟨p, us ++ us2, rfl, .inl (.inl upd_same), (r1.append r2).keep (.same (same_upd hp))⟩, rfl⟩ h.2
  · exact h.elim
theorem ve_catT (ha : VE X a fa) (hb : VE X b fb) : VE X (.BinOp a .Add b pos) (fOp oCatT (fCons fa (fCons fb fNil))) := ve_bin op_catA oc_catT ha hb
/-- the list, so many times -/
def oRepL : OF := fun ts R => match ts with
  | [.ls x, .d (.int k)] => (-(2 ^ 63) ≤ k ∧ k < 2 ^ 63 ∧ x.length * k.toNat ≤ sizeLine) ∧ R (.ls (List.replicate k.toNat x).flatten)
  | _ => False
theorem RepDs.rep {xs : List D} {us : List V} (r : RepDs K H xs us) : ∀ n : Nat, RepDs K H (List.replicate n xs).flatten (List.replicate n us).flatten
  | 0 => rfl
  | n + 1 => by rw [List.replicate_succ, List.replicate_succ, List.flatten_cons, List.flatten_cons]; exact r.append (RepDs.rep r n)
theorem oc_repL : OpOk K oRepL fun vs H Q => ∃ x y, vs = [x, y] ∧ rRep x y H Q := by
  intro ts vs H Q R b h k
  unfold oRepL at h
  split at h
  · rename_i x n
    obtain ⟨v, w, _, _, e, ⟨a1, us, e1, s1, r1, _⟩, ⟨h2, _⟩⟩ := b2 b
    have h2 : w = .int n := h2
    subst e1 h2
    refine ⟨_, _, e, a1, n, us, rfl, rfl, s1, h.1.1, h.1.2.1, by rw [r1.length]; exact h.1.2.2, fun p hp => ?_⟩
    refine k _ _ (.ls _) [p] (same_upd hp) (fun b hb => ?_) (by simp) ⟨p, _, rfl, upd_same, (r1.rep n.toNat).keep (.same (same_upd hp)), rfl⟩ h.2
    have : b = p := by simpa using hb
    subst this; exact hp
  · exact h.elim
theorem ve_repL (ha : VE X a fa) (hb : VE X b fb) : VE X (.BinOp a .Mult b pos) (fOp oRepL (fCons fa (fCons fb fNil))) := ve_bin op_rep oc_repL ha hb
/-! ### is None -/
def isN : T → Bool
  | .d .none => true
  | _ => false
def oIsN : OF := fun ts R => match ts with
  | [t] => R (.d (.bool (isN t)))
  | _ => False
def oNotN : OF := fun ts R => match ts with
  | [t] => R (.d (.bool (!isN t)))
  | _ => False
theorem RepT.non {t : T} {v : V} {ws : List Addr} (r : RepT K H t v ws) : decide (v = .non) = isN t := by
  cases t with
  | d x =>
    have r : RepD K H x v := r.1
    cases x with
    | none => have r : v = .non := r; rw [r]; rfl
    | bool _ => have r : v = .bl _ := r; rw [r]; rfl
    | int _ => have r : v = .int _ := r; rw [r]; rfl
    | str _ => have r : v = .str _ := r; rw [r]; rfl
    | tuple _ => obtain ⟨_, _, r, _⟩ := r; rw [r]; rfl
    | list _ => obtain ⟨_, _, r, _⟩ := r; rw [r]; rfl
    | dict _ => exact (show False from r).elim
  | ls _ => have ⟨_, _, r, _⟩ := r; rw [r]; rfl
  | lt _ => have ⟨_, _, _, r, _⟩ := r; rw [r]; rfl
  | dk _ => have ⟨_, _, _, r, _⟩ := r; rw [r]; rfl
  | tp _ => have ⟨_, _, r, _⟩ := r; rw [r]; rfl
  | ex _ _ _ => have ⟨r, _⟩ := r; rw [r]; rfl
  | ob _ _ => have ⟨_, _, _, _, _, r, _⟩ := r; rw [r]; rfl
  | pt _ => have ⟨_, _, _, _, r, _⟩ := r; rw [r]; rfl
theorem oc_isN : OpOk K oIsN fun vs H Q => ∃ x, vs = [x] ∧ Q (.bl (decide (x = .non))) H := by
  intro ts vs H Q R b h k
  unfold oIsN at h
  split at h
  · obtain ⟨v, _, e, h1⟩ := b1 b
    exact ⟨v, e, by rw [h1.non]; exact k _ _ (.d (.bool _)) [] (Same.refl _) nofresh (by simp) ⟨rfl, rfl⟩ h⟩
  · exact h.elim
theorem oc_notN : OpOk K oNotN fun vs H Q => ∃ x, vs = [x] ∧ Q (.bl (!decide (x = .non))) H := by
  intro ts vs H Q R b h k
  unfold oNotN at h
  split at h
  · obtain ⟨v, _, e, h1⟩ := b1 b
    exact ⟨v, e, by rw [h1.non]; exact k _ _ (.d (.bool _)) [] (Same.refl _) nofresh (by simp) ⟨rfl, rfl⟩ h⟩
  · exact h.elim
theorem ve_isN {j : Nat} {p2 : Pos} (ha : VE X a fa) : VE X (.Compare a [.Is] [.Constant .none j p2] pos) (fOp oIsN (fCons fa fNil)) := (pe_cmp (pc_isN ha)).pwi fun σ H Q h => tO_mono (one_core (op_core oc_isN h)) fun x H1 ⟨x', e, h2⟩ => by
  injection e with e1 _; subst e1; exact h2
theorem ve_notN {j : Nat} {p2 : Pos} (ha : VE X a fa) : VE X (.Compare a [.IsNot] [.Constant .none j p2] pos) (fOp oNotN (fCons fa fNil)) := (pe_cmp (pc_notN ha)).pwi fun σ H Q h => tO_mono (one_core (op_core oc_notN h)) fun x H1 ⟨x', e, h2⟩ => by
  injection e with e1 _; subst e1; exact h2
theorem vt_isN {j : Nat} {p2 : Pos} (ha : VE X a fa) : VT X (.Compare a [.Is] [.Constant .none j p2] pos) (fTest (fOp oIsN (fCons fa fNil))) := (pt_cmp (pc_isN ha)).pwi fun σ H Q h => tO_mono (one_core (op_core oc_isN (test_core h))) fun x H1 ⟨x', e, h2⟩ => by
  injection e with e1 _; subst e1; exact h2
theorem vt_notN {j : Nat} {p2 : Pos} (ha : VE X a fa) : VT X (.Compare a [.IsNot] [.Constant .none j p2] pos) (fTest (fOp oNotN (fCons fa fNil))) := (pt_cmp (pc_notN ha)).pwi fun σ H Q h => tO_mono (one_core (op_core oc_notN (test_core h))) fun x H1 ⟨x', e, h2⟩ => by
  injection e with e1 _; subst e1; exact h2
/-! ### what a list or a tuple holds -/
def itsOf : T → Option (List D)
  | .ls xs => some xs
  | .d (.list xs) => some xs
  | .d (.tuple xs) => some xs
  | _ => none
theorem itsOf_rep {t : T} {xs : List D} {v : V} {ws : List Addr} (h : itsOf t = some xs) (r : RepT K H t v ws) : ∃ a vs, v = .ref a ∧ (SqL K H a vs ∨ SqT K H a vs) ∧ RepDs K H xs vs := by
  unfold itsOf at h
  split at h
  · cases h
    obtain ⟨a, vs, e, ha, hr, _⟩ := r
    exact ⟨a, vs, e, .inl (SqL.of ha), hr⟩
  · cases h
    obtain ⟨⟨a, vs, e, ha, hr⟩, _⟩ := r
    exact ⟨a, vs, e, .inl ha.l, hr⟩
  · cases h
    obtain ⟨⟨a, vs, e, ha, hr⟩, _⟩ := r
    exact ⟨a, vs, e, .inr ha, hr⟩
  · cases h
theorem rep_strs : ∀ {bs : List Str} {vs : List V}, RepDs K H (bs.map .str) vs → vs = bs.map V.str
  | [], _, h => h
  | b :: bs, _, ⟨v, r, e, h, t⟩ => by
    have h : v = .str b := h
    rw [e, h, rep_strs t]; rfl
/-- a text among texts, a number among numbers -/
def inF (neg : Bool) : OF := fun ts R => (∃ (z : Str) (t : T) (zs : List Str), ts = [.d (.str z), t] ∧ itsOf t = some (zs.map .str) ∧ R (.d (.bool (if neg then !decide (z ∈ zs) else decide (z ∈ zs))))) ∨
  ∃ (z : Int) (t : T) (zs : List Int), ts = [.d (.int z), t] ∧ itsOf t = some (zs.map .int) ∧ R (.d (.bool (if neg then !decide (z ∈ zs) else decide (z ∈ zs))))
abbrev oInD : OF := inF false
abbrev oNotInD : OF := inF true
theorem oc_in {neg : Bool} : OpOk K (inF neg) fun vs H Q => ∃ x y, vs = [x, y] ∧ rIn K neg x y H Q := by
  intro ts vs H Q R b h k
  rcases h with ⟨z, t, zs, e, ht, h⟩ | ⟨z, t, zs, e, ht, h⟩
  · subst e
    obtain ⟨v, w, _, _, e, ⟨h1, _⟩, h2⟩ := b2 b
    have h1 : v = .str z := h1
    obtain ⟨p, us, e2, hs, hr⟩ := itsOf_rep ht h2
    subst h1 e2
    have hr := rep_strs hr
    subst hr
    refine ⟨_, _, e, p, _, rfl, hs, rfl, by simp [flatV], ?_⟩
    have ei : inV (.str z) (zs.map V.str) = decide (z ∈ zs) := by
      unfold inV
      rw [Bool.eq_iff_iff]
      simp [eqV]
    rw [ei]
    exact k _ _ (.d (.bool _)) [] (Same.refl _) nofresh (by simp) ⟨rfl, rfl⟩ h
  · subst e
    obtain ⟨v, w, _, _, e, ⟨h1, _⟩, h2⟩ := b2 b
    have h1 : v = .int z := h1
    obtain ⟨p, us, e2, hs, hr⟩ := itsOf_rep ht h2
    subst h1 e2
    have hr := rep_nums hr
    subst hr
    refine ⟨_, _, e, p, _, rfl, hs, rfl, by simp [flatV], ?_⟩
    have ei : inV (.int z) (zs.map V.int) = decide (z ∈ zs) := by
      unfold inV
      rw [Bool.eq_iff_iff]
      simp [eqV]
    rw [ei]
    exact k _ _ (.d (.bool _)) [] (Same.refl _) nofresh (by simp) ⟨rfl, rfl⟩ h
theorem oc_inD : OpOk K oInD fun vs H Q => ∃ x y, vs = [x, y] ∧ rIn K false x y H Q := oc_in
theorem oc_notInD : OpOk K oNotInD fun vs H Q => ∃ x y, vs = [x, y] ∧ rIn K true x y H Q := oc_in
/-! ### tuple(xs), list(xs) -/
def oTupOf : OF := fun ts R => ∃ t xs, ts = [t] ∧ itsOf t = some xs ∧ xs.length ≤ sizeLine ∧ R (.d (.tuple xs))
def oLstOf : OF := fun ts R => ∃ t xs, ts = [t] ∧ itsOf t = some xs ∧ R (.ls xs)
theorem oc_tupOf : OpOk K oTupOf fun xs H Q => ∃ p ys, xs = [.ref p] ∧ ((SqL K H p ys ∧ ∀ l, H l = none → Q (.ref l) (upd H l (.tup ys))) ∨ (SqT K H p ys ∧ Q (.ref p) H)) := by
  rintro _ vs H Q R b ⟨t, xs, rfl, ht, hz, h⟩ k
  obtain ⟨v, _, e, h1⟩ := b1 b
  obtain ⟨p, us, e2, hs, hr⟩ := itsOf_rep ht h1
  subst e2
  refine ⟨p, us, e, ?_⟩
  rcases hs with hs | hs
  · exact .inl ⟨hs, fun l hl => k _ _ (.d (.tuple xs)) [] (same_upd hl) nofresh (by simp) ⟨⟨l, us, rfl, .inl (.inl upd_same), hr.keep (.same (same_upd hl))⟩, rfl⟩ h⟩
  · exact .inr ⟨hs, k _ _ (.d (.tuple xs)) [] (Same.refl _) nofresh (by simp) ⟨⟨p, us, rfl, hs, hr⟩, rfl⟩ h⟩
theorem oc_lstOf : OpOk K oLstOf fun xs H Q => ∃ p ys, xs = [.ref p] ∧ (SqL K H p ys ∨ SqT K H p ys) ∧ ∀ l, H l = none → Q (.ref l) (upd H l (.lst ys)) := by
  rintro _ vs H Q R b ⟨t, xs, rfl, ht, h⟩ k
  obtain ⟨v, _, e, h1⟩ := b1 b
  obtain ⟨p, us, e2, hs, hr⟩ := itsOf_rep ht h1
  subst e2
  refine ⟨p, us, e, hs, fun l hl => k _ _ (.ls xs) [l] (same_upd hl) (fun b hb => ?_) (by simp) ⟨l, us, rfl, upd_same, hr.keep (.same (same_upd hl)), rfl⟩ h⟩
  have : b = l := by simpa using hb
  subst this; exact hl
/-! ### max, min of a list -/
def oMaxL : OF := fun ts R => ∃ (t : T) (ns : List Int), ts = [t] ∧ seqOf t = some (ns.map .int) ∧ 0 < ns.length ∧ ∀ m, m ∈ ns → (∀ y, y ∈ ns → y ≤ m) → R (.d (.int m))
theorem oc_maxL : OpOk K oMaxL (rMax K) := by
  rintro _ vs H Q R b ⟨t, ns, rfl, ht, hz, h⟩ k
  obtain ⟨v, _, e, h1⟩ := b1 b
  obtain ⟨p, us, e2, hs, hr⟩ := seqOf_rep ht h1
  have hr := rep_nums hr
  subst e2 hr
  exact ⟨p, ns, e, hs, hz, fun m m1 m2 => k _ _ (.d (.int m)) [] (Same.refl _) nofresh (by simp) ⟨rfl, rfl⟩ (h m m1 m2)⟩
end
end PW
end PwT
section PwU
set_option maxRecDepth 100000
/-! PwU: slices, join, count, pops, extends. -/
namespace PW
open PySem PySem.Spec L2
open PyProof.Rows hiding St
section
variable {X : Cx} {a b c e o : Expr} {es : List Expr} {pos : Pos} {f fa fb fc : TF} {fs : TAF} {vs : List V} {H : Hp} {K : PySem.W.Frag} {i : Nat}
theorem three_core {K : PySem.W.Frag} {f g h : TF} {σ : St} {H : Hp} {Q : List V → Hp → Prop} (q : tAO K (fCons f (fCons g (fCons h fNil))) σ H Q) : tO K f σ H fun x H1 => tO K g σ H1 fun y H2 => tO K h σ H2 fun z H3 => Q [x, y, z] H3 :=
  tO_mono (cons_core q) fun v H1 h1 => two_core h1
theorem b3 {t u w : T} (h : BReps K H [t, u, w] vs) : ∃ x y z ws1 ws2 ws3, vs = [x, y, z] ∧ RepT K H t x ws1 ∧ RepT K H u y ws2 ∧ RepT K H w z ws3 := by
  obtain ⟨x, r, ws1, e, hx, h⟩ := h
  obtain ⟨y, z, ws2, ws3, e2, hy, hz⟩ := b2 h
  exact ⟨x, y, z, ws1, ws2, ws3, by rw [e, e2], hx, hy, hz⟩
/-! ### slices -/
def cutD (xs : List D) (lo hi : Option Int) : List D := (xs.drop (HT.sIx xs.length 0 lo)).take (HT.sIx xs.length xs.length hi - HT.sIx xs.length 0 lo)
def cutT (t : T) (lo hi : Option Int) (R : T → Prop) : Prop := match t with
  | .ls xs => R (.ls (cutD xs lo hi))
  | .d (.list xs) => R (.ls (cutD xs lo hi))
  | .d (.tuple xs) => R (.d (.tuple (cutD xs lo hi)))
  | .d (.str z) => z.length ≤ sizeLine ∧ R (.d (.str (cutS z lo hi)))
  | _ => False
/-- the three slices together -/
def rCut (K : PySem.W.Frag) : V → Option Int → Option Int → Hp → VK → Prop := fun x lo hi H Q => (rSlL K x lo hi H Q ∨ rSlA K x lo hi H Q) ∨ rSlS x lo hi H Q
theorem sl_cut : SlR X (rCut X.K) := SlR.or (SlR.or sl_list sl_tupA) sl_str
theorem cut_rep {xs : List D} {us : List V} (r : RepDs K H xs us) (lo hi : Option Int) : RepDs K H (cutD xs lo hi) (cutV us lo hi) := by
  unfold cutD cutV
  rw [r.length]
  exact (r.drop _).take _
theorem cut_all {xs : List D} {lo hi : Option Int} (h : HT.sIx xs.length 0 lo = 0 ∧ HT.sIx xs.length xs.length hi = xs.length) : cutD xs lo hi = xs := by
  unfold cutD
  rw [h.1, h.2]
  simp
theorem cut_core {t : T} {v : V} {ws : List Addr} {lo hi : Option Int} {R : T → Prop} {Q : VK} (r : RepT K H t v ws) (h : cutT t lo hi R)
    (k : ∀ v H' t ws, Same H H' → (∀ b ∈ ws, H b = none) → ws.Nodup → RepT K H' t v ws → R t → Q v H') : rCut K v lo hi H Q := by
  unfold cutT at h
  split at h
  · obtain ⟨p, us, e, hp, hr, _⟩ := r
    subst e
    refine .inl (.inl ⟨p, us, rfl, SqL.of hp, fun l hl => k _ _ (.ls _) [l] (same_upd hl) (fun b hb => ?_) (by simp) ⟨l, _, rfl, upd_same, (cut_rep hr lo hi).keep (.same (same_upd hl)), rfl⟩ h⟩)
    have : b = l := by simpa using hb
    subst this; exact hl
  · obtain ⟨⟨p, us, e, hp, hr⟩, _⟩ := r
    subst e
    refine .inl (.inl ⟨p, us, rfl, hp.l, fun l hl => k _ _ (.ls _) [l] (same_upd hl) (fun b hb => ?_) (by simp) ⟨l, _, rfl, upd_same, (cut_rep hr lo hi).keep (.same (same_upd hl)), rfl⟩ h⟩)
    have : b = l := by simpa using hb
    subst this; exact hl
  · rename_i xs
    obtain ⟨⟨p, us, e, hp, hr⟩, _⟩ := r
    subst e
    refine .inl (.inr ⟨p, us, rfl, hp, fun z => ?_, fun _ l hl => ?_⟩)
    · rw [hr.length] at z
      rw [cut_all z] at h
      exact k _ _ (.d (.tuple xs)) [] (Same.refl _) nofresh (by simp) ⟨⟨p, us, rfl, hp, hr⟩, rfl⟩ h
    · exact k _ _ (.d (.tuple (cutD xs lo hi))) [] (same_upd hl) nofresh (by simp) ⟨⟨l, _, rfl, .inl (.inl upd_same), (cut_rep hr lo hi).keep (.same (same_upd hl))⟩, rfl⟩ h
  · rename_i z
    have r : v = .str z := r.1
    subst r
    exact .inr ⟨z, rfl, h.1, k _ _ (.d (.str _)) [] (Same.refl _) nofresh (by simp) ⟨rfl, rfl⟩ h.2⟩
  · exact h.elim
def oS00 : OF := fun ts R => match ts with
  | [t] => cutT t none none R
  | _ => False
def oS10 : OF := fun ts R => match ts with
  | [t, .d (.int i)] => cutT t (some i) none R
  | _ => False
def oS01 : OF := fun ts R => match ts with
  | [t, .d (.int j)] => cutT t none (some j) R
  | _ => False
def oS11 : OF := fun ts R => match ts with
  | [t, .d (.int i), .d (.int j)] => cutT t (some i) (some j) R
  | _ => False
/-- a number, seen at once -/
def fAsI (f : TF) : TF := fun ρ Q => f ρ fun o ρ1 => match o with
  | .val (.d (.int i)) => Q (.val (.d (.int i))) ρ1
  | _ => False
theorem asI_core {f : TF} {σ : St} {Q : VK} (h : tO K (fAsI f) σ H Q) : tO K f σ H fun v H' => (∃ i, v = .int i) ∧ Q v H' := by
  obtain ⟨P, ρ, W, R, G, q, k⟩ := h
  refine ⟨P, ρ, W, _, G, q, fun v H1 o ρ1 r1 h1 => ?_⟩
  split at h1
  · rename_i i
    obtain ⟨ws, W1, G1, st, nd, rp⟩ := r1.good G
    exact ⟨⟨i, rp.1⟩, k _ _ _ _ r1 h1⟩
  · exact h1.elim
theorem ve_s00 {p2 : Pos} (ha : VE X a fa) : VE X (.Subscript a (.Slice none none none p2) pos) (fOp oS00 (fCons fa fNil)) := (pe_slice sl_cut ha po_none po_none).pwi fun σ H Q h =>
  tO_mono (one_core (op_core (K := X.K) (r := fun vs H Q => ∃ x, vs = [x] ∧ rCut X.K x none none H Q) (fun ts vs H Q R b h k => by
    unfold oS00 at h
    split at h
    · obtain ⟨v, _, e, h1⟩ := b1 b
      exact ⟨v, e, cut_core h1 h k⟩
    · exact h.elim) h)) fun x H1 ⟨x', e, h2⟩ => by
      injection e with e1 _; subst e1; exact h2
theorem ve_s10 {p2 : Pos} (ha : VE X a fa) (hb : VE X b fb) : VE X (.Subscript a (.Slice (some b) none none p2) pos) (fOp oS10 (fCons fa (fCons fb fNil))) := (pe_slice sl_cut ha (po_some hb) po_none).pwi fun σ H Q h =>
  tO_mono (two_core (op_core (K := X.K) (r := fun vs H Q => ∃ x i, vs = [x, .int i] ∧ rCut X.K x (some i) none H Q) (fun ts vs H Q R b h k => by
    unfold oS10 at h
    split at h
    · rename_i t i
      obtain ⟨v, w, _, _, e, h1, ⟨h2, _⟩⟩ := b2 b
      have h2 : w = .int i := h2
      subst h2
      exact ⟨v, i, e, cut_core h1 h k⟩
    · exact h.elim) h)) fun x H1 h1 => tO_mono h1 fun y H2 ⟨x', i, e, h2⟩ => by
      injection e with e1 e2; injection e2 with e2 _; subst e1 e2; exact ⟨i, rfl, h2⟩
theorem ve_s01 {p2 : Pos} (ha : VE X a fa) (hb : VE X b fb) : VE X (.Subscript a (.Slice none (some b) none p2) pos) (fOp oS01 (fCons fa (fCons fb fNil))) := (pe_slice sl_cut ha po_none (po_some hb)).pwi fun σ H Q h =>
  tO_mono (two_core (op_core (K := X.K) (r := fun vs H Q => ∃ x i, vs = [x, .int i] ∧ rCut X.K x none (some i) H Q) (fun ts vs H Q R b h k => by
    unfold oS01 at h
    split at h
    · rename_i t i
      obtain ⟨v, w, _, _, e, h1, ⟨h2, _⟩⟩ := b2 b
      have h2 : w = .int i := h2
      subst h2
      exact ⟨v, i, e, cut_core h1 h k⟩
    · exact h.elim) h)) fun x H1 h1 => tO_mono h1 fun y H2 ⟨x', i, e, h2⟩ => by
      injection e with e1 e2; injection e2 with e2 _; subst e1 e2; exact ⟨i, rfl, h2⟩
theorem ve_s11 {p2 : Pos} (ha : VE X a fa) (hb : VE X b fb) (hc : VE X c fc) : VE X (.Subscript a (.Slice (some b) (some c) none p2) pos) (fOp oS11 (fCons fa (fCons (fAsI fb) (fCons (fAsI fc) fNil)))) := (pe_slice sl_cut ha (po_some hb) (po_some hc)).pwi fun σ H Q h =>
  tO_mono (three_core (op_core (K := X.K) (r := fun vs H Q => ∃ x i j, vs = [x, .int i, .int j] ∧ rCut X.K x (some i) (some j) H Q) (fun ts vs H Q R b h k => by
    unfold oS11 at h
    split at h
    · rename_i t i j
      obtain ⟨v, w, u, _, _, _, e, h1, ⟨h2, _⟩, ⟨h3, _⟩⟩ := b3 b
      have h2 : w = .int i := h2
      have h3 : u = .int j := h3
      subst h2 h3
      exact ⟨v, i, j, e, cut_core h1 h k⟩
    · exact h.elim) h)) fun x H1 h1 => tO_mono (asI_core h1) fun y H2 ⟨⟨i, hi⟩, h2⟩ => ⟨i, hi, tO_mono (asI_core h2) fun z H3 ⟨⟨j, hj⟩, ⟨x', i', j', e, h2⟩⟩ => ⟨j, hj, by
      subst hi hj
      injection e with e1 e2; injection e2 with e2 e3; injection e3 with e3 _; injection e2 with e2; injection e3 with e3; subst e1 e2 e3; exact h2⟩⟩
/-- xs[::-1] -/
def oRev : OF := fun ts R => match ts with
  | [t] => match seqOf t with
    | some xs => R (.ls xs.reverse)
    | none => False
  | _ => False
theorem ve_rev {k : Nat} {p1 p2 p3 : Pos} (ha : VE X a fa) : VE X (.Subscript a (.Slice none none (some (.UnaryOp .USub (.Constant (.int 1) k p1) p2)) p3) pos) (fOp oRev (fCons fa fNil)) := (pe_revL ha).pwi fun σ H Q h =>
  tO_mono (one_core (op_core (K := X.K) (r := fun vs H Q => ∃ x, vs = [x] ∧ ∃ a xs, x = .ref a ∧ SqL X.K H a xs ∧ ∀ p, H p = none → Q (.ref p) (upd H p (.lst xs.reverse))) (fun ts vs H Q R b h k => by
    unfold oRev at h
    split at h
    · split at h
      · rename_i xs hx
        obtain ⟨v, _, e, h1⟩ := b1 b
        obtain ⟨p, us, e2, hs, hr⟩ := seqOf_rep hx h1
        refine ⟨v, e, p, us, e2, hs, fun l hl => k _ _ (.ls xs.reverse) [l] (same_upd hl) (fun b hb => ?_) (by simp) ⟨l, _, rfl, upd_same, hr.reverse.keep (.same (same_upd hl)), rfl⟩ h⟩
        have : b = l := by simpa using hb
        subst this; exact hl
      · exact h.elim
    · exact h.elim) h)) fun x H1 ⟨x', e, h2⟩ => by
      injection e with e1 _; subst e1; exact h2
/-! ### a text's methods of one operand -/
def fStr1 (o : Str → OF) (f g : TF) : TF := fun ρ Q => f ρ fun p ρ1 => match p with
  | .val (.d (.str z)) => fOp (o z) (fCons g fNil) ρ1 Q
  | _ => False
def StrOk (K : PySem.W.Frag) (o : Str → OF) (r : V → List V → Hp → VK → Prop) : Prop := ∀ z, OpOk K (o z) fun vs H Q => r (.str z) vs H Q
theorem str1_core {o : Str → OF} {r : V → List V → Hp → VK → Prop} {f g : TF} {σ : St} {H : Hp} {Q : VK} (ok : StrOk K o r) (h : tO K (fStr1 o f g) σ H Q) : tM1 r (tO K f) (tO K g) σ H Q := by
  obtain ⟨P, ρ, W, R, G, q, k⟩ := h
  refine ⟨P, ρ, W, _, G, q, fun v H1 p ρ1 r1 h1 => ?_⟩
  obtain ⟨ws, W1, G1, st, nd, rp⟩ := r1.good G
  split at h1
  · rename_i z
    have ev : v = .str z := rp.1
    subst ev
    exact ⟨⟨z, rfl⟩, one_core (op_core (ok z) (go_on st.drop G1 k h1))⟩
  · exact h1.elim
def oJoin (z : Str) : OF := fun ts R => ∃ (t : T) (ys : List Str), ts = [t] ∧ itsOf t = some (ys.map .str) ∧ (ys.map (·.length)).sum + ys.length * z.length ≤ 16777216 ∧ R (.d (.str (Txt.join z ys)))
theorem ok_join : StrOk K oJoin (fun x xs H Q => ∃ a p, ∃ ys : List Str, x = .str a ∧ xs = [.ref p] ∧ (SqL K H p (ys.map V.str) ∨ SqT K H p (ys.map V.str)) ∧ (ys.map (·.length)).sum + ys.length * a.length ≤ 16777216 ∧ Q (.str (Txt.join a ys)) H) := by
  rintro z _ vs H Q R b ⟨t, ys, rfl, ht, hz, h⟩ k
  obtain ⟨v, _, e, h1⟩ := b1 b
  obtain ⟨p, us, e2, hs, hr⟩ := itsOf_rep ht h1
  have hr := rep_strs hr
  subst e2 hr
  exact ⟨z, p, ys, rfl, e, hs, hz, k _ _ (.d (.str _)) [] (Same.refl _) nofresh (by simp) ⟨rfl, rfl⟩ h⟩
theorem ve_join {apos : Pos} (ha : VE X a fa) (hb : VE X b fb) (hs : starEach [b] X.env = [(false, eval b X.env)] := by rfl) (hbase : attributeBase a "join" X.env (eval a X.env) = eval a X.env := by rfl) (hline : (apos.endLine == pos.line) = true := by rfl) :
    VE X (.Call (.Attribute a "join" apos) [b] [] pos) (fStr1 oJoin fa fb) := (pe_join ha hb hs hbase hline).pwi fun σ H Q h => str1_core ok_join h
/-! ### lists changed -/
def mPop : MF := fun xs ts R => match ts with
  | [] => match xs[xs.length - 1]? with
    | some x => R x xs.dropLast
    | none => False
  | _ => False
def mPopAt : MF := fun xs ts R => match ts with
  | [.d (.int i)] => (-(2 ^ 63) ≤ i ∧ i < 2 ^ 63) ∧ match seqIndex? i xs.length with
    | some k => match xs[k]? with
      | some x => R x (xs.eraseIdx k)
      | none => False
    | none => False
  | _ => False
theorem kept1 {a : Addr} {xv : List V} {u : HO} (ha : H a = some (.lst xv)) : Kept [a] H (upd H a u) := ⟨fun b o hb hn => by rw [upd_ne (by simpa using hn)]; exact hb, fun b hb => by
  have : b = a := by simpa using hb
  subst this; exact .inl ⟨_, ha⟩⟩
theorem RepDs.dropLast {xs : List D} {us : List V} (r : RepDs K H xs us) : RepDs K H xs.dropLast us.dropLast := by
  rw [List.dropLast_eq_take, List.dropLast_eq_take, r.length]
  exact r.take _
theorem RepDs.erase {xs : List D} {us : List V} (r : RepDs K H xs us) (n : Nat) : RepDs K H (xs.eraseIdx n) (us.eraseIdx n) := by
  rw [List.eraseIdx_eq_take_drop_succ, List.eraseIdx_eq_take_drop_succ]
  exact (r.take _).append (r.drop _)
theorem mk_pop : MutOk K mPop rPop := by
  intro xs ts a xv vs H Q R ha hr b h k
  unfold mPop at h
  split at h
  · split at h
    · rename_i x hx
      have e := b0 b
      obtain ⟨v, hv, rv⟩ := hr.get hx
      exact ⟨a, xv, v, rfl, e, ha, by rw [hr.length]; exact hv, k _ _ x xs.dropLast xv.dropLast (fun b o hb hn => by rw [upd_ne hn]; exact hb) upd_same (hr.dropLast.keep (kept1 ha)) (rv.keep (kept1 ha)) h⟩
    · exact h.elim
  · exact h.elim
theorem mk_popAt : MutOk K mPopAt rPopAt := by
  intro xs ts a xv vs H Q R ha hr b h k
  unfold mPopAt at h
  split at h
  · rename_i i
    obtain ⟨hi, h⟩ := h
    split at h
    · rename_i n hn
      split at h
      · rename_i x hx
        obtain ⟨w, _, e, ⟨h2, _⟩⟩ := b1 b
        have h2 : w = .int i := h2
        subst h2
        obtain ⟨v, hv, rv⟩ := hr.get hx
        exact ⟨a, xv, i, n, v, rfl, e, ha, hi.1, hi.2, by rw [hr.length]; exact hn, hv, k _ _ x (xs.eraseIdx n) (xv.eraseIdx n) (fun b o hb hn => by rw [upd_ne hn]; exact hb) upd_same ((hr.erase n).keep (kept1 ha)) (rv.keep (kept1 ha)) h⟩
      · exact h.elim
    · exact h.elim
  · exact h.elim
end
end PW
end PwU
section PwV
set_option maxRecDepth 100000
/-! PwV: lists lengthened by a list, a tuple; how often a text stands in a list. -/
namespace PW
open PySem PySem.Spec L2
open PyProof.Rows hiding St
section
open PySem.AutoSeq1
/-- xs.extend(a tuple), whatever else the tuple's object holds -/
theorem ext_tup (la ta : Addr) (xs ys : Array Value) (k1 k2 : Nat) (dd : Option Addr) (sl : Array (Option Value)) (nl : ¬(!xs.isEmpty && Builtin.List.listTooLong (xs.size + ys.size)) = true) (hx : xs.size ≤ sizeLine) (hxy : xs.size + ys.size ≤ sizeLine + 1) :
    Meets (Builtin.«list.extend» ⟨[.ref la, .ref ta], []⟩) (fun _ R s => s.heap.get? la = some { cls := .type "list", dict := none, data := .seq xs k1, slots := #[] } ∧ s.heap.get? ta = some { cls := .type "tuple", dict := dd, data := .seq ys k2, slots := sl } ∧
      R (.ok (.ret Value.none)) { s with heap := s.heap.update la (Obj.mapSeq fun x => x ++ ys), toks := s.toks }) := by
  refine .of_wp fun prog w A R s h => ?_
  obtain ⟨hp, g, d, tk, os⟩ := s
  obtain ⟨h1, h2, h⟩ := h
  have f1 := AutoSeq1.idx_int
  have f2 := AutoSeq1.sub_tuple_tuple
  have f3 := AutoSeq1.sub_list_list
  have f4 := AutoSeq1.sub_tuple_list
  have f5 := AutoSeq1.sub_list_tuple
  have hz' : (xs ++ ys).size ≤ sizeLine + 1 := by rw [Array.size_append]; exact hxy
  wp_walk using (wpAny_updateSeq h1 rfl (hz := hx) (_hz' := hz')), wpAny_loadPart' h1, wpAny_loadPart' h2
  exact ⟨_, rfl, h⟩
end
section
variable {X : Cx} {vs : List V} {H : Hp} {K : PySem.W.Frag}
def rExtT (K : PySem.W.Frag) : V → List V → Hp → VK → Prop := fun x vs H Q => ∃ l b xs zs, x = .ref l ∧ vs = [.ref b] ∧ H l = some (.lst xs) ∧ SqT K H b zs ∧ xs.length + zs.length ≤ sizeLine ∧ Q .non (upd H l (.lst (xs ++ zs)))
theorem mt_extT : MtR X "list.extend" (rExtT X.K) := by
  intro pins s σ H x vs v us Q I rx rv h
  obtain ⟨l, b, xs, zs, rfl, rfl, hH, hB, hz, q⟩ := h
  cases rx
  obtain ⟨u, rfl, ru⟩ := rv.one
  cases ru
  obtain ⟨z, its, n, r, hl, e⟩ := I.lstM hH
  obtain ⟨its2, r2, ⟨⟨cls, dd, data, sl⟩, ho, hc, n2, hd⟩, _⟩ := I.tuple hB
  simp only at hc hd
  subst hc hd
  have hl2 : zs.length = its2.length := r2.length
  have hsz : its.toArray.size + its2.toArray.size ≤ sizeLine := by rw [List.size_toArray, List.size_toArray]; omega
  have hlong : ¬ (!its.toArray.isEmpty && Builtin.List.listTooLong (its.toArray.size + its2.toArray.size)) = true := by
    rw [notLongL hsz, Bool.and_false]
    exact Bool.false_ne_true
  refine call_meets PySem.F.slot_list_extend ⟨_, e, rfl⟩ PySem.F.entry_list_extend (PySem.F.args_list_extend_2 _ _) (ext_tup l b its.toArray its2.toArray n n2 dd sl hlong (by rw [List.size_toArray]; omega) (by omega)) ⟨e, ho, ?_⟩
  refine ⟨.non, _, I.lset (its' := its ++ its2) hH e (by simp) (r.append r2) ?_, rfl, q⟩
  rw [List.length_append]
  omega
def mExt : MF := fun xs ts R => match ts with
  | [.ls ys] => xs.length + ys.length ≤ sizeLine ∧ R .none (xs ++ ys)
  | [.d (.tuple ys)] => xs.length + ys.length ≤ sizeLine ∧ R .none (xs ++ ys)
  | _ => False
theorem mk_ext : MutOk K mExt (fun x vs H Q => rExtend x vs H Q ∨ rExtT K x vs H Q) := by
  intro xs ts a xv vs H Q R ha hr b h k
  unfold mExt at h
  split at h
  · rename_i ys
    obtain ⟨v, _, e, p, us, e2, hp, hr2, _⟩ := b1 b
    subst e2
    exact .inl ⟨a, p, xv, us, rfl, e, ha, hp, by rw [hr.length, hr2.length]; exact h.1, k _ _ .none (xs ++ ys) (xv ++ us) (fun b o hb hn => by rw [upd_ne hn]; exact hb) upd_same ((hr.append hr2).keep (kept1 ha)) rfl h.2⟩
  · rename_i ys
    obtain ⟨v, _, e, ⟨p, us, e2, hp, hr2⟩, _⟩ := b1 b
    subst e2
    exact .inr ⟨a, p, xv, us, rfl, e, ha, hp, by rw [hr.length, hr2.length]; exact h.1, k _ _ .none (xs ++ ys) (xv ++ us) (fun b o hb hn => by rw [upd_ne hn]; exact hb) upd_same ((hr.append hr2).keep (kept1 ha)) rfl h.2⟩
  · exact h.elim
theorem mt_ext : MtR X "list.extend" (fun x vs H Q => rExtend x vs H Q ∨ rExtT X.K x vs H Q) := MtR.or mt_extend mt_extT
/-! ### count -/
def eqT (z : Str) (v : Value) : Bool := match v with
  | .str y _ => y.cps.toList == z.cps.toList
  | _ => false
theorem eqT_gives {z : Str} {t : Tok} : ∀ {us : List Value} {ns : List Str}, Vals (ns.map V.str) us → ∀ y ∈ us, MeetsSeq.EqGives y (.str z t) (eqT z y)
  | [], _, _, y, hy => by cases hy
  | u :: us, [], h, _, _ => by cases h
  | u :: us, n :: ns, h, y, hy => by
    cases h with
    | cons r rr =>
      rcases List.mem_cons.mp hy with e | e
      · subst e
        obtain ⟨t2, rfl⟩ := r
        exact SeqRoads2.EqGives.str n z t2 t
      · exact eqT_gives rr y e
theorem eqT_count {z : Str} : ∀ {us : List Value} {ns : List Str}, Vals (ns.map V.str) us → us.countP (eqT z) = ns.count z
  | [], [], _ => rfl
  | [], _ :: _, h => by cases h
  | u :: us, [], h => by cases h
  | u :: us, n :: ns, h => by
    cases h with
    | cons r rr =>
      obtain ⟨t2, rfl⟩ := r
      have ih := eqT_count (z := z) rr
      rw [List.countP_cons, List.count_cons, ih]
      have : eqT z (.str n t2) = (n == z) := by
        unfold eqT
        rw [Bool.eq_iff_iff, beq_iff_eq, beq_iff_eq]
        constructor
        · intro e
          have e2 : n.cps = z.cps := Array.toList_inj.mp e
          cases n; cases z; cases e2; rfl
        · intro e; rw [e]
      rw [this]
def rCntS (K : PySem.W.Frag) : V → List V → Hp → VK → Prop := fun x xs H Q => ∃ (p : Addr) (ns : List Str) (k : Str), x = .ref p ∧ xs = [.str k] ∧ SqL K H p (ns.map V.str) ∧ Q (.int (ns.count k : Nat)) H
theorem mt_countS : MtR X "list.count" (rCntS X.K) := by
  intro pins s σ H x xs v us Q I rx rxs h
  obtain ⟨p, ns, k, rfl, rfl, hs, q⟩ := h
  cases rx
  obtain ⟨u, rfl, ru⟩ := rxs.one
  obtain ⟨t, rfl⟩ := ru
  obtain ⟨its, rv, ⟨⟨cls, dd, data, sl⟩, n, ho, hc, hdn, hd⟩, hlen⟩ := I.list hs
  simp only at hc hd
  subst hc hd
  refine call_meets PySem.F.slot_list_count ⟨_, ho, rfl⟩ PySem.F.entry_list_count (PySem.F.args_list_count_2 _ _)
    (SeqAt.list_countAt p its.toArray n dd sl (.str k t) (eqT k)) ⟨ho, fun y hy => (eqT_gives rv y (by simpa using hy)).at _ _, ?_⟩
  have ec : its.toArray.toList.countP (eqT k) = ns.count k := eqT_count rv
  refine ⟨.int (ns.count k : Nat), H, I.tok _, ⟨s.toks, ?_⟩, q⟩
  show Value.int ((its.toArray.toList.countP (eqT k) : Nat) : Int) s.toks = Value.int ((ns.count k : Nat) : Int) s.toks
  rw [ec]
/-- xs.m(..): the list is only read -/
def fLs (o : OF) (f : TF) (fs : TAF) : TF := fun ρ Q => f ρ fun p ρ1 => withR ρ1 [p] (fun ts => ∃ t xs, ts = [t] ∧ seqOf t = some xs) ∧ fOp o (fun ρ1 Q1 => fs ρ1 fun os ρ2 => Q1 (p :: os) ρ2) ρ1 Q
theorem lsm_core {o : OF} {r : V → List V → Hp → VK → Prop} {f : TF} {fs : TAF} {σ : St} {H : Hp} {Q : VK} (ok : OpOk K o fun vs H Q => ∃ x xs, vs = x :: xs ∧ r x xs H Q) (h : tO K (fLs o f fs) σ H Q) : tBM K "list" r (tO K f) (tAO K fs) σ H Q := by
  obtain ⟨P, ρ, W, R, G, q, k⟩ := h
  refine ⟨P, ρ, W, _, G, q, fun v H1 p ρ1 r1 h1 => ?_⟩
  obtain ⟨ws, W1, G1, st, nd, rp⟩ := r1.good G
  obtain ⟨hl, h1⟩ := h1
  obtain ⟨ts, bt, t, xs, e, hx⟩ := withR_ok G1.sr (os := [p]) (vs := [v]) (ws := ws) ⟨v, [], ws, [], rfl, rp, ⟨rfl, rfl⟩, by simp⟩ hl
  subst e
  obtain ⟨v', ws', e', rt⟩ := b1 bt
  injection e' with e' _
  subst e'
  obtain ⟨a, us, e2, hs, hr⟩ := seqOf_rep hx rt
  subst e2
  refine ⟨.inl ⟨rfl, us, hs⟩, P, ρ1, W1, _, G1, h1, fun vs H2 os ρ2 r2 h2 => ?_⟩
  obtain ⟨ws2, W2, st2, nd2, sr2, rp2⟩ := r2
  obtain ⟨st3, nd3⟩ := glue st nd rp.mut st2 nd2
  have rp1 := rp.keep ⟨st2.keep, G1.mut⟩ fun b hb => nd_apart nd b hb
  obtain ⟨ts2, bt2, h3⟩ := withR_ok sr2 (os := p :: os) (vs := .ref a :: vs) (ws := ws ++ ws2) ⟨_, vs, ws, ws2, rfl, rp1, rp2, rfl⟩ h2
  have G2 : Good K P H2 ρ2 σ W2 := ⟨sr2, nd_right nd2, fun b hb => (G.apart st3 b hb).imp_left fun z hz => z (by simp [hz])⟩
  have fr4 : ∀ {H3 : Hp} {ws3 : List Addr}, Same H2 H3 → (∀ b ∈ ws3, H2 b = none) → Step W (ws3 ++ W2) H H3 := fun {H3 ws3} sm fr => (Step.drop (ws := ws ++ ws2) (by rw [List.append_assoc]; exact st3)).fresh sm fr G.mut
  obtain ⟨x, xs', e4, h4⟩ := ok ts2 _ H2 Q _ bt2 h3 fun v H3 t ws3 sm fr n3 rt3 ht => k _ _ (.val t) _ ⟨ws3, W2, fr4 sm fr, Step.new_nd sr2.mut fr n3 (nd_right nd2), sr2.after (W0 := []) (fun b o h _ => sm b o h) (by simp) (by simp) (by simp), rt3⟩ ht
  injection e4 with e5 e6
  subst e5 e6
  exact h4
def oCountS : OF := fun ts R => ∃ (t : T) (ns : List Str) (z : Str), ts = [t, .d (.str z)] ∧ seqOf t = some (ns.map .str) ∧ R (.d (.int (ns.count z : Nat)))
theorem oc_countS : OpOk K oCountS fun vs H Q => ∃ x xs, vs = x :: xs ∧ rCntS K x xs H Q := by
  rintro _ vs H Q R b ⟨t, ns, z, rfl, ht, h⟩ k
  obtain ⟨v, w, _, _, e, h1, ⟨h2, _⟩⟩ := b2 b
  have h2 : w = .str z := h2
  obtain ⟨p, us, e2, hs, hr⟩ := seqOf_rep ht h1
  have hr := rep_strs hr
  subst h2 e2 hr
  exact ⟨_, _, e, p, ns, z, rfl, rfl, hs, k _ _ (.d (.int _)) [] (Same.refl _) nofresh (by simp) ⟨rfl, rfl⟩ h⟩
theorem ve_lsm {a e : Expr} {es : List Expr} {fa : TF} {fs : TAF} {o : OF} {name : Str} {id : String} {r : V → List V → Hp → VK → Prop} {apos cpos : Pos} (sl : PySem.Slot "list" name id) (hty : typeOf (.builtin id) = pure (.type "method_descriptor")) (hm : MtR X id r) (ok : OpOk X.K o fun vs H Q => ∃ x xs, vs = x :: xs ∧ r x xs H Q) (ho : VE X a fa) (ha : VA X (e :: es) fs)
    (hbase : attributeBase a name X.env (eval a X.env) = eval a X.env := by rfl)
    (hfew : ((backTo cpos (starEach (e :: es) X.env)).all (fun x => !x.1) && (backToKw cpos (keywordEach [] X.env)).all (fun x => x.1.isSome)
      && decide ((e :: es).length + ([] : List Keyword).length + (if ([] : List Keyword).isEmpty then 0 else 1) < 30)) = true := by rfl)
    (hline : (apos.endLine == cpos.line) = true := by rfl) (hs : starEach (e :: es) X.env = (false, eval e X.env) :: starEach es X.env := by rfl) (hplain : (backTo cpos (starEach es X.env)).any (·.1) = false := by rfl) :
    VE X (.Call (.Attribute a name apos) (e :: es) [] cpos) (fLs o fa fs) :=
  (pe_bm PySem.F.plainAttrs_list sl hty hm ho ha hbase hfew hline hs hplain).pwi fun σ H Q h => lsm_core ok h
end
end PW
end PwV
section PwK
set_option maxRecDepth 100000
/-! PwK: dicts of texts that a slot owns: displays, items read, stored; a list in a dict. -/
namespace PW
open PySem PySem.Spec L2
open PyProof.Rows hiding St
section
variable {K : PySem.W.Frag} {P : Addr → Prop} {H H' : Hp} {W : List Addr} {ρ : List Slot} {σ : St} {i : Nat}
/-- the tree of slot i becomes another one at the same place -/
theorem slot_core {t0 t1 : T} (G : Good K P H ρ σ W) (hx : ρ[i]? = some (.own t0))
    (h : ∀ v ws, σ[i]? = some (some v) → RepT K H t0 v ws → ws.Nodup → ∃ ws', RepT K H' t1 v ws' ∧ (∀ b ∈ ws', b ∈ ws) ∧ ws'.Nodup ∧ ∀ b o, H b = some o → b ∉ ws → H' b = some o) : ∃ W', Step W W' H H' ∧ Good K P H' (ρ.set i (.own t1)) σ W' := by
  obtain ⟨v, ws, W1, hv, hr, sr, m, n⟩ := G.sr.pull hx
  have n' : (ws ++ W1).Nodup := n G.nd
  obtain ⟨ws', hr', sub, nd', kp⟩ := h v ws hv hr (nd_left n')
  have k : Kept ws H H' := ⟨kp, hr.mut⟩
  have hP : ∀ b, P b → b ∉ ws := fun b hb z => (G.ap b hb).1 ((m b).mpr (List.mem_append_left _ z))
  have sr1 : SR K P H' (ρ.set i .un) σ W1 := sr.after (W0 := ws) k.keep k.mu hP fun b hb z => nd_apart n' b z hb
  have hi : i < (ρ.set i .un).length := by rw [List.length_set]; exact SR.lt hx
  obtain ⟨W2, sr2, m2, n2⟩ := sr1.put (ws := ws') (t := t1) (v := v) (nd_mk nd' (nd_right n') fun b hb hz => nd_apart n' b (sub b hb) hz) hi hr'
  rw [List.set_set, set_same hv] at sr2
  have sub2 : ∀ b ∈ W2, b ∈ W := fun b hb => (m b).mpr (by
    rcases List.mem_append.mp (m2 b hb) with z | z
    · exact List.mem_append_left _ (sub b z)
    · exact List.mem_append_right _ z)
  exact ⟨W2, ⟨fun b o hb hn => kp b o hb fun z => hn ((m b).mpr (List.mem_append_left _ z)), fun b hb => .inl (sub2 b hb)⟩, sr2, n2, fun b hb => ⟨fun z => (G.ap b hb).1 (sub2 b z), let ⟨o, e⟩ := (G.ap b hb).2; ⟨o, kp b o e (hP b hb)⟩⟩⟩
/-! ### entries -/
def lookK : List (Key × T) → Key → Option T
  | [], _ => none
  | (j, t) :: r, k => if j = k then some t else lookK r k
/-- the entry k holds x -/
def putD (kts : List (Key × T)) (k : Key) (x : D) : List (Key × T) :=
  if (kts.any fun kv => decide (kv.1 = k)) = true then kts.map (fun kv => if kv.1 = k then (kv.1, .d x) else kv) else kts ++ [(k, .d x)]
/-- the first entry k becomes t -/
def repK : List (Key × T) → Key → T → List (Key × T)
  | [], _, _ => []
  | (j, u) :: r, k, t => if j = k then (j, t) :: r else (j, u) :: repK r k t
theorem RepKs.look : ∀ {kts : List (Key × T)} {kvs : List (Key × V)} {w : List Addr} {k : Key} {t : T}, RepKs K H kts kvs w → lookK kts k = some t → ∃ v ws, valV kvs k = some v ∧ RepT K H t v ws
  | [], _, _, _, _, _, h => by cases h
  | (j, u) :: r, _, _, k, t, ⟨v, kr, w1, w2, e, h1, h2, _⟩, h => by
    subst e
    unfold lookK at h
    by_cases hj : j = k
    · rw [if_pos hj] at h
      cases h
      exact ⟨v, w1, valV_pos hj, h1⟩
    · rw [if_neg hj] at h
      obtain ⟨v', ws', e', r'⟩ := RepKs.look h2 h
      exact ⟨v', ws', by rw [valV_neg hj]; exact e', r'⟩
theorem RepKs.keys : ∀ {kts : List (Key × T)} {kvs : List (Key × V)} {w : List Addr} {k : Key}, RepKs K H kts kvs w → (kvs.any fun kv => decide (kv.1 = k)) = (kts.any fun kv => decide (kv.1 = k)) ∧ kvs.length = kts.length
  | [], _, _, _, ⟨e, _⟩ => by subst e; exact ⟨rfl, rfl⟩
  | (j, u) :: r, _, _, k, ⟨v, kr, w1, w2, e, h1, h2, _⟩ => by
    subst e
    obtain ⟨a, b⟩ := RepKs.keys (k := k) h2
    exact ⟨by rw [List.any_cons, List.any_cons, a], by rw [List.length_cons, List.length_cons, b]⟩
theorem RepKs.mapD {x : D} {u : V} (hx : RepD K H x u) : ∀ {kts : List (Key × T)} {kvs : List (Key × V)} {w : List Addr} {k : Key}, RepKs K H kts kvs w → ∃ w', RepKs K H (kts.map fun kv => if kv.1 = k then (kv.1, .d x) else kv) (kvs.map fun kv => if kv.1 = k then (kv.1, u) else kv) w' ∧ w'.Sublist w
  | [], _, _, _, ⟨e, ew⟩ => by subst e ew; exact ⟨[], ⟨rfl, rfl⟩, List.Sublist.refl _⟩
  | (j, t) :: r, _, _, k, ⟨v, kr, w1, w2, e, h1, h2, ew⟩ => by
    subst e ew
    obtain ⟨w', h', s'⟩ := RepKs.mapD hx (k := k) h2
    by_cases hj : j = k
    · refine ⟨w', ?_, s'.trans (List.sublist_append_right _ _)⟩
      rw [List.map_cons, List.map_cons]
      simp only [hj, if_true]
      exact ⟨u, _, [], w', rfl, ⟨hx, rfl⟩, h', rfl⟩
    · refine ⟨w1 ++ w', ?_, List.Sublist.append (List.Sublist.refl _) s'⟩
      rw [List.map_cons, List.map_cons]
      simp only [hj, if_false]
      exact ⟨v, _, w1, w', rfl, h1, h', rfl⟩
theorem RepKs.snoc {x : D} {u : V} (hx : RepD K H x u) {k : Key} : ∀ {kts : List (Key × T)} {kvs : List (Key × V)} {w : List Addr}, RepKs K H kts kvs w → RepKs K H (kts ++ [(k, .d x)]) (kvs ++ [(k, u)]) w
  | [], _, _, ⟨e, ew⟩ => by subst e ew; exact ⟨u, [], [], [], rfl, ⟨hx, rfl⟩, ⟨rfl, rfl⟩, rfl⟩
  | (j, t) :: r, _, _, ⟨v, kr, w1, w2, e, h1, h2, ew⟩ => by
    subst e ew
    exact ⟨v, _, w1, w2, rfl, h1, RepKs.snoc hx h2, rfl⟩
theorem RepKs.put {x : D} {u : V} (hx : RepD K H x u) {kts : List (Key × T)} {kvs : List (Key × V)} {w : List Addr} {k : Key} (h : RepKs K H kts kvs w) : ∃ w', RepKs K H (putD kts k x) (putK kvs k u) w' ∧ w'.Sublist w := by
  unfold putD putK
  rw [(h.keys (k := k)).1]
  by_cases hk : (kts.any fun kv => decide (kv.1 = k)) = true
  · rw [if_pos hk, if_pos hk]; exact h.mapD hx
  · rw [if_neg hk, if_neg hk]; exact ⟨w, h.snoc hx, List.Sublist.refl _⟩
/-- the list at k becomes another -/
theorem RepKs.chg {xs ys : List D} {k : Key} : ∀ {kts : List (Key × T)} {kvs : List (Key × V)} {w : List Addr}, RepKs K H kts kvs w → w.Nodup → lookK kts k = some (.ls xs) →
    ∃ l us, valV kvs k = some (.ref l) ∧ l ∈ w ∧ H l = some (.lst us) ∧ RepDs K H xs us ∧ ∀ yv, RepDs K H ys yv → RepKs K (upd H l (.lst yv)) (repK kts k (.ls ys)) kvs w
  | [], _, _, _, _, h => by cases h
  | (j, u) :: r, _, _, ⟨v, kr, w1, w2, e, h1, h2, ew⟩, nd, h => by
    subst e ew
    unfold lookK at h
    by_cases hj : j = k
    · rw [if_pos hj] at h
      cases h
      obtain ⟨l, us, e, hl, hr, ew⟩ := h1
      subst e ew
      refine ⟨l, us, valV_pos hj, by simp, hl, hr, fun yv hy => ?_⟩
      unfold repK
      rw [if_pos hj]
      refine ⟨_, kr, [l], w2, rfl, ⟨l, yv, rfl, upd_same, hy.keep (kept1 hl), rfl⟩, RepKs.keep (W := [l]) (kept1 hl) h2 fun b hb hz => ?_, rfl⟩
      have : b = l := by simpa using hz
      subst this
      exact nd_apart nd b (by simp) hb
    · rw [if_neg hj] at h
      obtain ⟨l, us, e, hlw, hl, hr, hc⟩ := RepKs.chg h2 (nd_right nd) h
      refine ⟨l, us, by rw [valV_neg hj]; exact e, List.mem_append_right _ hlw, hl, hr, fun yv hy => ?_⟩
      unfold repK
      rw [if_neg hj]
      refine ⟨v, kr, w1, w2, rfl, RepT.keep (W := [l]) (kept1 hl) h1 fun b hb hz => ?_, hc yv hy, rfl⟩
      have : b = l := by simpa using hz
      subst this
      exact nd_apart nd b hb hlw
end
section
variable {X : Cx} {fx : List Nat} {a e : Expr} {es : List Expr} {pos p2 : Pos} {f : TF} {fs : TAF} {i j0 : Nat} {k : Str}
/-- d[k] of the dict in slot i -/
def fGetK (i : Nat) (k : Str) : TF := fun ρ Q => match ρ[i]? with
  | some (.own (.dk kts)) => match lookK kts (.inr k) with
    | some (.d x) => Q (.val (.d x)) ρ
    | _ => False
  | _ => False
theorem ve_getK (hr : X.A.units + 64 < cLine) (h : PE X a (tVar i)) (hs : NoSl (.Constant (.str k) j0 p2) := by intro _ _; rfl) : VE X (.Subscript a (.Constant (.str k) j0 p2) pos) (fGetK i k) := (pe_dget (by omega) h pe_str hs).pwi fun σ H Q ⟨P, ρ, W, R, G, q, kQ⟩ => by
  unfold fGetK at q
  split at q
  · rename_i kts hx
    split at q
    · rename_i x hk
      obtain ⟨v, ws, hv, b, kvs, w, e, hb, rk, _⟩ := G.sr.read (.inl hx)
      subst e
      obtain ⟨u, wu, e2, ru, _⟩ := rk.look hk
      exact ⟨_, hv, b, u, rfl, e2 ▸ DGet.k (k := .inr k) hb, kQ _ _ (.val (.d x)) _ ⟨[], W, Step.refl _ _, by simpa using G.nd, G.sr, ⟨ru, rfl⟩⟩ q⟩
    · exact q.elim
  · exact q.elim
/-- d[k] = data -/
def sSetK (i : Nat) (k : Str) (f : TF) : SF := fun E ρ => f ρ fun o ρ1 => match o with
  | .val (.d x) => match ρ1[i]? with
    | some (.own (.dk kts)) => kts.length < sizeLine ∧ E.nx (ρ1.set i (.own (.dk (putD kts (.inr k) x))))
    | _ => False
  | _ => False
theorem vs_setK (hr : X.A.units + 64 < cLine) (he : VE X e f) (h : PE X a (tVar i)) {spos : Pos}
    (ha : ∀ v, assign (.Subscript a (.Constant (.str k) j0 p2) pos) X.env v = (do
      let ov ← holding [v] (eval a X.env)
      let iv ← holding [v, ov] (eval (.Constant (.str k) j0 p2) X.env)
      standAt pos
      holding [v, ov, iv] (setItem ov iv v)
      release [v, ov, iv] []) := by intro _; rfl)
    (hs : swapsWithSole [.Subscript a (.Constant (.str k) j0 p2) pos] e spos.line X.env = pure false := by rfl) (hw : swappedStores [.Subscript a (.Constant (.str k) j0 p2) pos] e X.env = pure none := by rfl)
    (h1 : (assignEach [.Subscript a (.Constant (.str k) j0 p2) pos] X.env).map (·.2) = [assign (.Subscript a (.Constant (.str k) j0 p2) pos) X.env] := by rfl) : VS X fx (.Assign [.Subscript a (.Constant (.str k) j0 p2) pos] e spos) (sSetK i k f) :=
  PS.pwi (ps_asg he (pg_sub h pe_str (set_dict (by omega)) ha) hs hw h1) fun D σ H ⟨P, ρ, W, E, G, q, k1, k2, k3, k4, k5⟩ => ⟨P, ρ, W, _, G, q, fun v H1 o ρ1 r1 h1 => by
    obtain ⟨ws, W1, G1, st, nd, rp⟩ := r1.good G
    split at h1
    · rename_i x
      split at h1
      · rename_i kts hx
        obtain ⟨v', ws', hv, b, kvs, w, e, hb, rk, _⟩ := G1.sr.read (.inl hx)
        subst e
        have rx : RepD X.K H1 x v := rp.1
        obtain ⟨W2, st2, G2⟩ := slot_core (H' := upd H1 b (.dK (putK kvs (.inr k) v))) (t1 := .dk (putD kts (.inr k) x)) G1 hx (fun u wu hu ru nu => by
          rw [hv] at hu
          injection hu with hu
          injection hu with hu
          subst hu
          obtain ⟨b', kvs', w', e', hb', rk', ew'⟩ := ru
          injection e' with e'
          subst e' ew'
          rw [hb] at hb'
          injection hb' with hb'
          injection hb' with hb'
          subst hb'
          have kp : Kept [b] H1 (upd H1 b (.dK (putK kvs (.inr k) v))) := ⟨fun c o hc hn => by rw [upd_ne (by simpa using hn)]; exact hc, fun c hc => by
            have : c = b := by simpa using hc
            subst this; exact .inr (.inl ⟨_, hb⟩)⟩
          obtain ⟨w2, r2, s2⟩ := rk'.put rx (k := .inr k)
          have n2 : b ∉ w' := (List.nodup_cons.mp nu).1
          refine ⟨b :: w2, ⟨b, _, w2, rfl, upd_same, RepKs.keep kp r2 fun c hc hz => ?_, rfl⟩, fun c hc => ?_, List.nodup_cons.mpr ⟨fun z => n2 (s2.subset z), (List.nodup_cons.mp nu).2.sublist s2⟩, fun c o hc hn => ?_⟩
          · have : c = b := by simpa using hz
            subst this
            exact n2 (s2.subset hc)
          · rcases List.mem_cons.mp hc with z | z
            · rw [z]; exact List.mem_cons_self ..
            · exact List.mem_cons_of_mem _ (s2.subset z)
          · rw [upd_ne (by rintro rfl; exact hn (List.mem_cons_self ..))]; exact hc)
        refine ⟨_, hv, b, _, rfl, DPut.k (k := .inr k) hb (by rw [(rk.keys (k := .inr k)).2]; exact h1.1), k1 _ _ _ ⟨W2, ?_, G2, .refl⟩ h1.2⟩
        simpa using st.drop.trans (ws := []) (by simpa using st2) (by simpa using G1.nd)
      · exact h1.elim
    · exact h1.elim⟩
/-- d[k] != [] -/
def fNeK (i : Nat) (k : Str) : TF := fun ρ Q => match ρ[i]? with
  | some (.own (.dk kts)) => match lookK kts (.inr k) with
    | some (.ls xs) => SeqAt.shaped (.list xs) = true ∧ Q (.val (.d (.bool (!PyData.eqv (.list xs) (.list []))))) ρ
    | _ => False
  | _ => False
theorem neK_low {σ : St} {H : Hp} {Q : VK} (h : tO X.K (fNeK i k) σ H Q) : tOp (rNeD X.K) (tDGet (tVar i) (tC (.str k))) (tLst tNil) σ H Q := by
  obtain ⟨P, ρ, W, R, G, q, kQ⟩ := h
  unfold fNeK at q
  split at q
  · rename_i kts hx
    split at q
    · rename_i xs hk
      obtain ⟨v, ws, hv, b, kvs, w, e, hb, rk, _⟩ := G.sr.read (.inl hx)
      subst e
      obtain ⟨u, wu, e2, l, us, e3, hl, hu, _⟩ := rk.look hk
      subst e3
      refine ⟨_, hv, b, _, rfl, e2 ▸ DGet.k (k := .inr k) hb, by rw [sizeLine_eq]; exact Nat.zero_le _, fun p hp => ?_⟩
      have sm : Same H (upd H p (.lst [])) := same_upd hp
      refine ⟨.list xs, .list [], .lst (SqL.of (sm _ _ hl)) (hu.keep (.same sm)).dp, .lst (SqL.of upd_same) .nil, q.1, rfl, kQ _ _ (.val (.d (.bool _))) _ ⟨[], W, ?_, by simpa using G.nd, G.sr.after (W0 := []) (fun b o h _ => sm b o h) (by simp) (by simp) (by simp), ⟨rfl, rfl⟩⟩ q.2⟩
      exact ⟨fun c o hc _ => sm c o hc, fun c hc => .inl (by simpa using hc)⟩
    · exact q.elim
  · exact q.elim
theorem neK_core (hr : X.A.units + 64 < cLine) (h : PE X a (tVar i)) {p3 p4 : Pos} (hs : NoSl (.Constant (.str k) j0 p2) := by intro _ _; rfl) (hm : behindInMarks .NotEq (.List [] p4) = false := by rfl) : VE X (.Compare (.Subscript a (.Constant (.str k) j0 p2) pos) [.NotEq] [.List [] p4] p3) (fNeK i k) :=
  (pe_cmpR (op_neD hr) (pe_dget (by omega) h pe_str hs) (pe_lst pa_nil) hm).pwi fun σ H Q h => neK_low h
theorem neK_test (hr : X.A.units + 64 < cLine) (h : PE X a (tVar i)) {p3 p4 : Pos} (hs : NoSl (.Constant (.str k) j0 p2) := by intro _ _; rfl) (hm : behindInMarks .NotEq (.List [] p4) = false := by rfl) : VT X (.Compare (.Subscript a (.Constant (.str k) j0 p2) pos) [.NotEq] [.List [] p4] p3) (fTest (fNeK i k)) :=
  (pt_cmpR (op_neD hr) (pe_dget (by omega) h pe_str hs) (pe_lst pa_nil) hm).pwi fun σ H Q h => neK_low (test_core h)
/-- d[k].pop() -/
def fPopK (i : Nat) (k : Str) : TF := fun ρ Q => match ρ[i]? with
  | some (.own (.dk kts)) => match lookK kts (.inr k) with
    | some (.ls xs) => match xs[xs.length - 1]? with
      | some x => Q (.val (.d x)) (ρ.set i (.own (.dk (repK kts (.inr k) (.ls xs.dropLast)))))
      | none => False
    | _ => False
  | _ => False
theorem ve_popK (hr : X.A.units + 64 < cLine) (h : PE X a (tVar i)) {apos cpos : Pos} (hs : NoSl (.Constant (.str k) j0 p2) := by intro _ _; rfl) (hbase : attributeBase (.Subscript a (.Constant (.str k) j0 p2) pos) "pop" X.env (eval (.Subscript a (.Constant (.str k) j0 p2) pos) X.env) = eval (.Subscript a (.Constant (.str k) j0 p2) pos) X.env := by rfl) (hline : (apos.endLine == cpos.line) = true := by rfl) :
    VE X (.Call (.Attribute (.Subscript a (.Constant (.str k) j0 p2) pos) "pop" apos) [] [] cpos) (fPopK i k) :=
  (pe_bm0 PySem.F.plainAttrs_list PySem.F.slot_list_pop PySem.F.type_list_pop mt_pop (pe_dget (by omega) h pe_str hs) hbase hline).pwi fun σ H Q ⟨P, ρ, W, R, G, q, kQ⟩ => by
  unfold fPopK at q
  split at q
  · rename_i kts hx
    split at q
    · rename_i xs hk
      split at q
      · rename_i x hxs
        obtain ⟨v, ws, W1, hv, ⟨b, kvs, w, e, hb, rk, ew⟩, _, m, n⟩ := G.sr.pull hx
        subst e ew
        have nw : (b :: w).Nodup := nd_left (n G.nd)
        obtain ⟨l, us, e2, hlw, hl, hu, hc⟩ := rk.chg (ys := xs.dropLast) (List.nodup_cons.mp nw).2 hk
        obtain ⟨y, hy, ry⟩ := hu.get hxs
        refine ⟨_, hv, b, .ref l, rfl, e2 ▸ DGet.k (k := .inr k) hb, .inl ⟨rfl, us, SqL.of hl⟩, l, us, y, rfl, rfl, hl, by rw [hu.length]; exact hy, ?_⟩
        have hbl : b ≠ l := fun z => (List.nodup_cons.mp nw).1 (z ▸ hlw)
        obtain ⟨W2, st2, G2⟩ := slot_core (H' := upd H l (.lst us.dropLast)) (t1 := .dk (repK kts (.inr k) (.ls xs.dropLast))) G hx (fun u wu hu' ru nu => by
          rw [hv] at hu'
          injection hu' with hu'
          injection hu' with hu'
          subst hu'
          obtain ⟨b', kvs', w', e', hb', rk', ew'⟩ := ru
          injection e' with e'
          subst e' ew'
          rw [hb] at hb'
          injection hb' with hb'
          injection hb' with hb'
          subst hb'
          obtain ⟨l', us', e2', hlw', hl', hu'', hc'⟩ := rk'.chg (ys := xs.dropLast) (List.nodup_cons.mp nu).2 hk
          rw [e2] at e2'
          injection e2' with e2'
          injection e2' with e2'
          subst e2'
          rw [hl] at hl'
          injection hl' with hl'
          injection hl' with hl'
          subst hl'
          exact ⟨b :: w', ⟨b, kvs, w', rfl, by rw [upd_ne hbl]; exact hb, hc' _ hu''.dropLast, rfl⟩, fun _ h => h, nu, fun c o hc2 hn => by rw [upd_ne (by rintro rfl; exact hn (List.mem_cons_of_mem _ hlw'))]; exact hc2⟩)
        refine kQ _ _ (.val (.d x)) _ ⟨[], W2, by simpa using st2, by simpa using G2.nd, G2.sr, ⟨ry.keep (kept1 hl), rfl⟩⟩ q
      · exact q.elim
    · exact q.elim
  · exact q.elim
end
end PW
end PwK
section PwL
set_option maxRecDepth 100000
/-! PwL: displays of dicts with texts as keys. -/
namespace PW
open PySem PySem.Spec L2
open PyProof.Rows hiding St
section
variable {X : Cx} {K : PySem.W.Frag} {H : Hp} {σ : St} {f : TF} {fs : TAF} {pos : Pos}
/-- values under text keys, from the left -/
def VPs (X : Cx) (pos : Pos) (keys : List (Option Expr)) (values : List Expr) (ks : List Key) (fs : TAF) : Prop :=
  ∃ trs, PPs X pos keys values trs ∧ ∀ σ H (Q : List (V × V) → Hp → Prop), tAO X.K fs σ H (fun vs H' => vs.length = ks.length ∧ Q ((ks.zip vs).map fun kv => (kV kv.1, kv.2)) H') → tPairs trs σ H Q
theorem tAO_mono {K : PySem.W.Frag} {f : TAF} {σ : St} {H : Hp} {Q Q' : List V → Hp → Prop} (h : tAO K f σ H Q) (i : ∀ v H', Q v H' → Q' v H') : tAO K f σ H Q' :=
  let ⟨P, ρ, W, R, G, q, k⟩ := h
  ⟨P, ρ, W, R, G, q, fun v H' o ρ' r hr => i _ _ (k v H' o ρ' r hr)⟩
theorem vps_nil : VPs X pos [] [] [] fNil := ⟨[], pps_nil, fun σ H Q ⟨P, ρ, W, R, G, q, k⟩ => (k [] H [] ρ ⟨[], W, Step.refl _ _, by simpa using G.nd, G.sr, ⟨rfl, rfl⟩⟩ q).2⟩
theorem vps_cons {k : Str} {j : Nat} {p : Pos} {v : Expr} {keys : List (Option Expr)} {values : List Expr} {ks : List Key} (hv : VE X v f) (hr : VPs X pos keys values ks fs) : VPs X pos (some (.Constant (.str k) j p) :: keys) (v :: values) (.inr k :: ks) (fCons f fs) := by
  obtain ⟨trs, hp, hc⟩ := hr
  refine ⟨_, pps_cons pe_str hv hp, fun σ H Q h => ?_⟩
  refine tO_mono (cons_core h) fun x H1 h1 => hc σ H1 _ (tAO_mono h1 fun vs H2 ⟨hl, q⟩ => ⟨by simpa using hl, q⟩)
/-- {"k": v, ..}: the values owned or data -/
def valsO : List Opv → Option (List T)
  | [] => some []
  | .val t :: os => match valsO os with
    | some ts => some (t :: ts)
    | none => none
  | .slot _ :: _ => none
def fDk (ks : List Key) (fs : TAF) : TF := fun ρ Q => fs ρ fun os ρ1 => match valsO os with
  | some ts => ts.length = ks.length ∧ Q (.val (.dk (ks.zip ts))) ρ1
  | none => False
theorem vals_len : ∀ {os : List Opv} {ts : List T}, valsO os = some ts → ts.length = os.length
  | [], _, h => by cases h; rfl
  | .slot _ :: _, _, h => by cases h
  | .val t :: os, ts, h => by
    unfold valsO at h
    split at h
    · rename_i ts' ht
      cases h
      rw [List.length_cons, List.length_cons, vals_len ht]
    · cases h
theorem vals_ks : ∀ {os : List Opv} {ts : List T} {ks : List Key} {vs : List V} {ws : List Addr}, valsO os = some ts → RepOs K H σ os vs ws → vs.length = ks.length → RepKs K H (ks.zip ts) (ks.zip vs) ws
  | [], ts, ks, vs, ws, h, ⟨e, ew⟩, hl => by
    cases h
    subst e ew
    have : ks = [] := List.eq_nil_of_length_eq_zero hl.symm
    subst this
    exact ⟨rfl, rfl⟩
  | .slot _ :: _, _, _, _, _, h, _, _ => by cases h
  | .val t :: os, ts, ks, vs, ws, h, ⟨v, r, w1, w2, e, h1, h2, ew⟩, hl => by
    subst e
    unfold valsO at h
    split at h
    · rename_i ts' ht
      cases h
      cases ks with
      | nil => simp at hl
      | cons k ks => exact ⟨v, _, w1, w2, rfl, h1, vals_ks ht h2 (by simpa using hl), ew⟩
    · cases h
theorem merge_new : ∀ {more kvs : List (Key × V)}, (kvs.map (·.1) ++ more.map (·.1)).Nodup → mergeK kvs more = kvs ++ more
  | [], kvs, _ => by simp [mergeK]
  | kv :: more, kvs, h => by
    have e : putK kvs kv.1 kv.2 = kvs ++ [kv] := by
      unfold putK
      have hn : kv.1 ∉ kvs.map (·.1) := fun z => nd_apart h kv.1 z (by simp)
      have : (kvs.any fun x => decide (x.1 = kv.1)) = false := by
        rw [List.any_eq_false]
        intro x hx z
        exact hn (List.mem_map.mpr ⟨x, hx, by simpa using z⟩)
      rw [this]
      simp
    show mergeK (putK kvs kv.1 kv.2) more = _
    rw [e, merge_new (kvs := kvs ++ [kv]) (by simpa [List.append_assoc] using h)]
    simp
theorem ve_dk {keys : List (Option Expr)} {values : List Expr} {ks : List Key} (h : VPs X pos keys values ks fs) (nd : ks.Nodup) (hall : keys.all (·.isSome) = true := by rfl) (hl : keys.length = values.length := by rfl) (h0 : keys ≠ [] := by simp)
    (h15 : keys.length ≤ 15 := by decide) (hk : ks.length ≤ 15 := by decide) : VE X (.Dict keys values pos) (fDk ks fs) := by
  obtain ⟨trs, hp, hc⟩ := h
  refine (pe_disp hp hall hl h0 h15).pwi fun σ H Q ⟨P, ρ, W, R, G, q, k⟩ p hpn => ?_
  have sm : Same H (upd H p (.dK [])) := same_upd hpn
  have G0 : Good X.K P (upd H p (.dK [])) ρ σ W := ⟨G.sr.after (W0 := []) (fun b o h _ => sm b o h) (by simp) (by simp) (by simp), G.nd, fun b hb => ⟨(G.ap b hb).1, let ⟨o, e⟩ := (G.ap b hb).2; ⟨o, sm _ _ e⟩⟩⟩
  have pW : p ∉ W := fun z => by obtain ⟨o, ho⟩ := (G.mut p z).there; rw [hpn] at ho; cases ho
  refine hc σ _ _ ⟨P, ρ, W, _, G0, q, fun vs H1 os ρ1 r1 h1 => ?_⟩
  obtain ⟨ws, W1, G1, st, ndw, rp⟩ := r1.good G0
  split at h1
  rotate_left
  · exact h1.elim
  rename_i ts ht
  have h1p : H1 p = some (.dK []) := st.keep p _ upd_same pW
  obtain ⟨hts, h1⟩ := h1
  have hlv : vs.length = ks.length := by rw [rp.length, ← vals_len ht]; exact hts
  refine ⟨hlv, h1p, ks.zip vs, rfl, by rw [List.length_zip]; omega, ?_⟩
  have em : mergeK [] (ks.zip vs) = ks.zip vs := by
    have := merge_new (kvs := []) (more := ks.zip vs) (by
      rw [List.map_nil, List.nil_append, List.map_fst_zip (by omega)]; exact nd)
    simpa using this
  rw [em]
  have pw : p ∉ ws ++ W1 := fun z => by
    rcases st.new p z with z | z
    · exact pW z
    · rw [upd_same] at z; cases z
  have kp : Kept [p] H1 (upd H1 p (.dK (ks.zip vs))) := ⟨fun c o hc hn => by rw [upd_ne (by simpa using hn)]; exact hc, fun c hc => by
    have : c = p := by simpa using hc
    subst this; exact .inr (.inl ⟨_, h1p⟩)⟩
  have rk := RepKs.keep kp (vals_ks ht rp hlv) fun c hc hz => by
    have : c = p := by simpa using hz
    subst this; exact pw (List.mem_append_left _ hc)
  have sr1 : SR X.K P (upd H1 p (.dK (ks.zip vs))) ρ1 σ W1 := G1.sr.after (W0 := [p]) kp.keep kp.mu (fun b hb z => by
    have : b = p := by simpa using z
    subst this
    obtain ⟨o, ho⟩ := (G.ap b hb).2
    rw [hpn] at ho; cases ho) fun b hb z => by
      have : b = p := by simpa using z
      subst this; exact pw (List.mem_append_right _ hb)
  refine k _ _ (.val (.dk (ks.zip ts))) _ ⟨p :: ws, W1, ⟨fun b o hb hn => ?_, fun b hb => ?_⟩, ?_, sr1, ⟨p, _, ws, rfl, upd_same, rk, rfl⟩⟩ h1
  · have hbp : b ≠ p := by rintro rfl; rw [hpn] at hb; cases hb
    rw [upd_ne hbp]
    exact st.keep b o (sm _ _ hb) hn
  · rcases List.mem_cons.mp (show b ∈ p :: (ws ++ W1) from hb) with z | z
    · subst z; exact .inr hpn
    · rcases st.new b z with z | z
      · exact .inl z
      · refine .inr ?_
        cases q2 : H b with
        | none => rfl
        | some o => rw [sm _ _ q2] at z; cases z
  · exact List.nodup_cons.mpr ⟨pw, ndw⟩
end
end PW
end PwL
section PwZ
set_option maxRecDepth 100000
/-! PwZ: zip and enumerate of lists and tuples in any mix. -/
namespace PW
open PySem PySem.Spec L2
open PyProof.Rows hiding St
/-- what is walked: a list, a tuple -/
structure Sc where
  tup : Bool
  ad : Addr
namespace Sc
def at_ (c : Sc) (K : PySem.W.Frag) (H : Hp) (xs : List V) : Prop := if c.tup = true then SqT K H c.ad xs else SqL K H c.ad xs
def it (c : Sc) (h : Heap) (i : Addr) (n : Nat) : Prop := if c.tup = true then h.IsTupleIter i c.ad n else h.IsListIter i c.ad n
def hold (c : Sc) (h : Heap) (its : Array Value) : Prop := if c.tup = true then h.IsTuple c.ad its else h.IsList c.ad its
def ob (c : Sc) : Obj := if c.tup = true then { cls := .type "tuple_iterator", data := .fields #[.ref c.ad, .int 0 0] } else { cls := .type "list_iterator", data := .fields #[.ref c.ad, .int 0 0] }
theorem begins (c : Sc) (its : Array Value) : Begins (.ref c.ad) c.ob fun h => c.hold h its := by
  unfold ob hold
  cases c.tup with
  | true => simpa using begins_tuple c.ad its
  | false => simpa using begins_list c.ad its
theorem draws (c : Sc) {prog : Program} {w : World} {A : Around} (hh : A.handled = none) (i : Addr) (hne : c.ad ≠ i) (its : Array Value) : Draws prog w A i [i, c.ad] its.size (fun n v => its[n]? = some v) (fun n h => c.it h i n ∧ c.hold h its) := by
  unfold it hold
  cases c.tup with
  | true => simpa using Draws.tuple hh i c.ad hne its
  | false => simpa using Draws.list hh i c.ad hne its
theorem get {X : Cx} {pins : List (Addr × Obj)} {σ : St} {H : Hp} {s : Shared} {xs : List V} (c : Sc) (I : L2.Inv X pins σ H s) (h : c.at_ X.K H xs) : ∃ its : List Value, Vals xs its ∧ c.hold s.heap its.toArray ∧ c.ad < s.heap.objs.size := by
  unfold at_ at h
  unfold hold
  cases hc : c.tup with
  | true =>
    rw [hc, if_pos rfl] at h
    obtain ⟨its, rv, p, _⟩ := I.tuple h
    obtain ⟨o, ho, _⟩ := id p
    exact ⟨its, rv, by rw [if_pos rfl]; exact p, Heap.lt_size ho⟩
  | false =>
    rw [hc, if_neg Bool.false_ne_true] at h
    obtain ⟨its, rv, p, _⟩ := I.list h
    exact ⟨its, rv, by rw [if_neg Bool.false_ne_true]; exact p.isList, p.lt⟩
theorem inj {X : Cx} {pins : List (Addr × Obj)} {σ : St} {H : Hp} {s : Shared} {xs ys : List V} (c : Sc) (I : L2.Inv X pins σ H s) (h : c.at_ X.K H xs) (g : c.at_ X.K H ys) : xs = ys := by
  unfold at_ at h g
  cases hc : c.tup with
  | true => rw [hc, if_pos rfl] at h g; exact I.tuple_inj h g
  | false => rw [hc, if_neg Bool.false_ne_true] at h g; exact I.list_inj h g
theorem it_ob (c : Sc) {h : Heap} {i : Addr} {n : Nat} (st : c.it h i n) : ∃ o vs, h.get? i = some o ∧ o.data = .fields vs := by
  unfold it at st
  cases hc : c.tup with
  | true => rw [hc, if_pos rfl] at st; obtain ⟨o, e, _, d⟩ := st; exact ⟨o, _, e, d⟩
  | false => rw [hc, if_neg Bool.false_ne_true] at st; obtain ⟨o, e, _, d⟩ := st; exact ⟨o, _, e, d⟩
theorem it_keep (c : Sc) {h h' : Heap} {i : Addr} {n : Nat} (st : c.it h i n) (k : ∀ o, h.get? i = some o → h'.get? i = some o) : c.it h' i n := by
  unfold it at st ⊢
  cases hc : c.tup with
  | true => rw [hc, if_pos rfl] at st; rw [if_pos rfl]; exact st.at k
  | false => rw [hc, if_neg Bool.false_ne_true] at st; rw [if_neg Bool.false_ne_true]; exact st.at k
theorem it_new (c : Sc) {h : Heap} {i : Addr} (e : h.get? i = some c.ob) : c.it h i 0 := by
  unfold ob at e
  unfold it
  cases hc : c.tup with
  | true => rw [hc, if_pos rfl] at e; rw [if_pos rfl]; exact ⟨_, e, rfl, rfl⟩
  | false => rw [hc, if_neg Bool.false_ne_true] at e; rw [if_neg Bool.false_ne_true]; exact ⟨_, e, rfl, rfl⟩
end Sc
/-- the pairs of two -/
def Izz (K : PySem.W.Frag) (a b : Sc) : It :=
  ⟨fun i H => ∃ (xs ys : List V) (x y : V), a.at_ K H xs ∧ b.at_ K H ys ∧ xs[i]? = some x ∧ ys[i]? = some y,
    fun i H v H' => ∃ T x y, v = .ref T ∧ H T = none ∧ H' = upd H T (.tup [x, y]) ∧ (∀ xs, a.at_ K H xs → xs[i]? = some x) ∧ ∀ ys, b.at_ K H ys → ys[i]? = some y,
    fun i H => ∃ xs ys : List V, a.at_ K H xs ∧ b.at_ K H ys ∧ (xs.length ≤ i ∨ ys.length ≤ i) ∧ i ≤ xs.length ∧ i ≤ ys.length⟩
theorem turn_zz {P : Program} {w : World} {K : PySem.W.Frag} {elts : List Expr} {kk : Nat} {tpos : Pos} {a b : Sc} {z TI TO i1 i2 : Addr} (D : ZipSep2 z TI TO i1 i2 [i1, a.ad] [i2, b.ad]) (d1 : a.ad ≠ i1) (d2 : b.ad ≠ i2) :
    Turn P w K (.Tuple elts kk tpos) (Izz K a b) [z, TI, TO, i1, i2] z (fun i h => IsZip h z TI TO .none ∧ IsTupOf2 h TI (.ref i1) (.ref i2) ∧ (∃ x y, IsTupOf2 h TO x y) ∧ a.it h i1 i ∧ b.it h i2 i) where
  mem := by simp
  obj := fun i h st c hc => by
    obtain ⟨hz, hTI, ⟨x, y, hTO⟩, h1, h2⟩ := st
    obtain ⟨o1, f1, e1, q1⟩ := a.it_ob h1
    obtain ⟨o2, f2, e2, q2⟩ := b.it_ob h2
    have e' : c = z ∨ c = TI ∨ c = TO ∨ c = i1 ∨ c = i2 := by simpa using hc
    rcases e' with q | q | q | q | q
    · rw [q]; exact ⟨_, hz, fun v q => nomatch q⟩
    · rw [q]; exact ⟨_, hTI, fun v q => nomatch q⟩
    · rw [q]; exact ⟨_, hTO, fun v q => nomatch q⟩
    · rw [q]; exact ⟨o1, e1, fun v q => by rw [q1] at q; cases q⟩
    · rw [q]; exact ⟨o2, e2, fun v q => by rw [q2] at q; cases q⟩
  keep := fun i h h' st k => by
    obtain ⟨hz, hTI, ⟨x, y, hTO⟩, h1, h2⟩ := st
    exact ⟨k z (by simp) _ hz, k TI (by simp) _ hTI, ⟨x, y, k TO (by simp) _ hTO⟩, a.it_keep h1 fun o q => k i1 (by simp) o q, b.it_keep h2 fun o q => k i2 (by simp) o q⟩
  item := by
    intro X hP hw hK hc i pins s σ H E I hf st hg
    subst hP hw hK
    obtain ⟨hz, hTI, ⟨x0, y0, hTO⟩, h1, h2⟩ := st
    obtain ⟨xs, ys, x, y, hqx, hqy, hx, hy⟩ := hg
    obtain ⟨its, rv, p, pl⟩ := a.get I hqx
    obtain ⟨its2, rv2, p2, pl2⟩ := b.get I hqy
    obtain ⟨u, hu, ru⟩ := rv.get hx
    obtain ⟨u2, hu2, ru2⟩ := rv2.get hy
    have hzl : z < s.heap.objs.size := Heap.lt_size hz
    have hh : X.A.in1.handled = none := I.ok.hd hc
    have l1 : i < its.toArray.size := by have := (List.getElem?_eq_some_iff.mp hu).1; simpa using this
    have l2 : i < its2.toArray.size := by have := (List.getElem?_eq_some_iff.mp hu2).1; simpa using this
    refine wpAny_pyNext_zipD2_item D (a.draws hh i1 d1 its.toArray) (b.draws hh i2 d2 its2.toArray) hz hTI hTO ⟨h1, p⟩ ⟨h2, p2⟩ l1 l2 fun v1 v2 h' tk e1 e2 z' TO' s1' s2' hT hsz hk => ?_
    have e1 : v1 = u := by have e1 : its[i]? = some v1 := by simpa using e1
                           rw [hu] at e1; exact (Option.some.inj e1).symm
    have e2 : v2 = u2 := by have e2 : its2[i]? = some v2 := by simpa using e2
                            rw [hu2] at e2; exact (Option.some.inj e2).symm
    subst e1 e2
    refine ⟨_, rfl, wpAny_letOwnedTupleGo_zip (s := { s with heap := h', toks := tk }) z' fun h'' z'' sb => ?_⟩
    have hT2 : h''.get? s.heap.objs.size = some { cls := .type "tuple", data := .seq #[v1, v2] } := (sb.2 _ (Nat.ne_of_gt hzl)).trans hT
    have new : ObjOk X.prog X.w (upd H s.heap.objs.size (.tup [x, y])) h'' s.heap.objs.size (.tup [x, y]) :=
      ⟨by show 2 ≤ sizeLine; decide, [v1, v2], .cons ru (.cons ru2 .nil), ⟨_, hT2, rfl, _, rfl⟩⟩
    have I1 : L2.Inv X pins σ (upd H s.heap.objs.size (.tup [x, y])) { s with heap := h'', toks := tk } :=
      I.turnedNew (t' := tk) (ch := [z, TI, TO, i1, i2]) (fun c o hb q => (sb.2 c (fun q' => hb (by simp [q']))).trans (hk c o (fun q' => hb (by simp [q'])) (fun q' => hb (by simp [q'])) (fun q' => hb (by simp [q'])) (fun q' => hb (by simp [q'])) q)) hf (Nat.le_refl _) new
    refine ⟨.ref s.heap.objs.size, _, I1, rfl, ⟨_, x, y, rfl, I.hok.fresh (Nat.le_refl _), rfl, fun l hl => by rw [a.inj I hl hqx]; exact hx, fun l hl => by rw [b.inj I hl hqy]; exact hy⟩, ⟨z'', ?_, ⟨v1, v2, ?_⟩, ?_, ?_⟩, fun c hcm => ?_⟩
    · exact (sb.2 _ D.TIz).trans (hk _ _ D.TIz D.TITO D.TIi1 D.TIi2 hTI)
    · exact (sb.2 _ D.TOz).trans TO'
    · exact a.it_keep s1'.1 fun o q => (sb.2 _ (Ne.symm D.zi1)).trans q
    · exact b.it_keep s2'.1 fun o q => (sb.2 _ (Ne.symm D.zi2)).trans q
    · have hlt : c < s.heap.objs.size := by
        have e' : c = z ∨ c = TI ∨ c = TO ∨ c = i1 ∨ c = i2 := by simpa using hcm
        obtain ⟨o1, f1, e1, q1⟩ := a.it_ob h1
        obtain ⟨o2, f2, e2, q2⟩ := b.it_ob h2
        rcases e' with q | q | q | q | q
        · rw [q]; exact hzl
        · rw [q]; exact Heap.lt_size hTI
        · rw [q]; exact Heap.lt_size hTO
        · rw [q]; exact Heap.lt_size e1
        · rw [q]; exact Heap.lt_size e2
      rw [upd_ne (Nat.ne_of_lt hlt)]
      exact (hf c hcm).1
  done := by
    intro X hP hw hK hc i pins s σ H E I hf st hg
    subst hP hw hK
    obtain ⟨hz, hTI, ⟨x0, y0, hTO⟩, h1, h2⟩ := st
    obtain ⟨xs, ys, hqx, hqy, hend, hi1, hi2⟩ := hg
    obtain ⟨its, rv, p, _⟩ := a.get I hqx
    obtain ⟨its2, rv2, p2, _⟩ := b.get I hqy
    have l1 := rv.length
    have l2 := rv2.length
    have hh : X.A.in1.handled = none := I.ok.hd hc
    exact wpAny_pyNext_zipD2_end D (a.draws hh i1 d1 its.toArray) (b.draws hh i2 d2 its2.toArray) hz hTI hTO ⟨h1, p⟩ ⟨h2, p2⟩ (by simp; omega) (by simp; omega) (by simp; omega) fun h' tk hk => ⟨rfl, I.turnedL (t' := tk) (ch := [z, TI, TO, i1, i2]) (fun c o hb q =>
      hk c o (fun q' => hb (by simp [q'])) (fun q' => hb (by simp [q'])) (fun q' => hb (by simp [q'])) (fun q' => hb (by simp [q'])) q) hf⟩
  self := fun A i s Q E st h => wpAny_pyIter_zip st.1 h
def iZzA (K : PySem.W.Frag) (ta : TA) : TI := fun σ H R => ta σ H fun vs H1 => ∃ (a b : Sc) (xs ys : List V), vs = [.ref a.ad, .ref b.ad] ∧ a.at_ K H1 xs ∧ b.at_ K H1 ys ∧ R (Izz K a b) H1
theorem pi_zz {X : Cx} {e e2 : Expr} {ta : TA} {p pos tpos : Pos} {elts : List Expr} {kk : Nat} (hg : Gl X "zip") (hm : X.mg "zip" = none) (ha : PA X [e, e2] ta)
    (hs : starEach [e, e2] X.env = (false, eval e X.env) :: starEach [e2] X.env := by rfl) (hpl : (backTo pos (starEach [e2] X.env)).any (·.1) = false := by rfl) :
    PI X (.Tuple elts kk tpos) (.Call (.Name "zip" p) [e, e2] [] pos) (iZzA X.K ta) := by
  refine ⟨fun pins s σ H R I h => ?_⟩
  refine Call_ (ld_blt I hg hm PyProof.Rows.boot_zip (PyProof.Rows.callWith_type1 (thn (ha.run pos pins s σ H _ I h) fun us s1 ⟨vs, H1, I1, r1, q1⟩ => ?_) hs hpl))
  obtain ⟨a, b, xs, ys, ex, hqx, hqy, q⟩ := q1
  subst ex
  cases r1 with
  | cons r rr =>
    cases rr with
    | cons r' rr =>
      cases rr
      cases r
      cases r'
      obtain ⟨its, rv, p1, l1⟩ := a.get I1 hqx
      obtain ⟨its2, rv2, p2, l2⟩ := b.get I1 hqy
      have S : ZipSep2 (s1.heap.objs.size + 4) (s1.heap.objs.size + 2) (s1.heap.objs.size + 3) s1.heap.objs.size (s1.heap.objs.size + 1) (s1.heap.objs.size :: [a.ad]) ((s1.heap.objs.size + 1) :: [b.ad]) := zip_sep2 (fun c hc => by
        have : c = a.ad := by simpa using hc
        rw [this]; exact l1) (fun c hc => by
        have : c = b.ad := by simpa using hc
        rw [this]; exact l2)
      refine zip_begins2 (a.begins its.toArray) (b.begins its2.toArray) p1 p2 fun h' hz hTI hTO h1 h2 hsz hk => wpAny_pyIter_zip hz ?_
      have I2 : L2.Inv X pins σ H1 { s1 with heap := h' } := I1.kept (t' := s1.toks) hk
      refine ⟨s1.heap.objs.size + 4, [s1.heap.objs.size + 4, s1.heap.objs.size + 2, s1.heap.objs.size + 3, s1.heap.objs.size, s1.heap.objs.size + 1], _, _, H1, rfl, I2, turn_zz S (Nat.ne_of_lt l1) (Nat.ne_of_lt (Nat.lt_succ_of_lt l2)), ⟨hz, hTI, ⟨_, _, hTO⟩, a.it_new h1, b.it_new h2⟩, fun c hcm => ?_, q⟩
      have e' : c = s1.heap.objs.size + 4 ∨ c = s1.heap.objs.size + 2 ∨ c = s1.heap.objs.size + 3 ∨ c = s1.heap.objs.size ∨ c = s1.heap.objs.size + 1 := by simpa using hcm
      have hle : s1.heap.objs.size ≤ c := by
        rcases e' with z | z | z | z | z <;> rw [z] <;> first | exact Nat.le_add_right _ _ | exact Nat.le_refl _
      exact I1.fpOk hle (I1.hok.fresh hle)

/-- the items of one, counted -/
def Ize (K : PySem.W.Frag) (a : Sc) : It :=
  ⟨fun i H => ∃ (xs : List V) (x : V), a.at_ K H xs ∧ xs[i]? = some x, fun i H v H' => ∃ T x, v = .ref T ∧ H T = none ∧ H' = upd H T (.tup [.int (i : Nat), x]) ∧ ∀ xs, a.at_ K H xs → xs[i]? = some x, fun i H => ∃ xs : List V, a.at_ K H xs ∧ i = xs.length⟩
theorem turn_ze {P : Program} {w : World} {K : PySem.W.Frag} {elts : List Expr} {kk : Nat} {tpos : Pos} (a : Sc) (e it : Addr) :
    Turn P w K (.Tuple elts kk tpos) (Ize K a) [e, it] e (fun i h => (∃ old, IsEnum h e it ((i : Nat) : Int) old) ∧ a.it h it i ∧ e ≠ it ∧ a.ad ≠ it ∧ e ≠ a.ad) where
  mem := by simp
  obj := fun i h st b hb => by
    obtain ⟨⟨old, he⟩, hi, _⟩ := st
    obtain ⟨o, f, ho, hd⟩ := a.it_ob hi
    have e' : b = e ∨ b = it := by simpa using hb
    rcases e' with z | z
    · rw [z]; exact ⟨_, he, fun v q => nomatch q⟩
    · rw [z]; exact ⟨o, ho, fun v q => by rw [hd] at q; cases q⟩
  keep := fun i h h' st k => let ⟨⟨old, he⟩, hi, hne⟩ := st; ⟨⟨old, k e (by simp) _ he⟩, a.it_keep hi fun o q => k it (by simp) o q, hne⟩
  item := by
    intro X hP hw hK hc i pins s σ H E I hf st hg
    subst hP hw hK
    obtain ⟨⟨old, he⟩, hit, hne, hn2, hn3⟩ := st
    obtain ⟨xs, x, hq, hx⟩ := hg
    obtain ⟨its, rv, p, pl⟩ := a.get I hq
    obtain ⟨u, hu, ru⟩ := rv.get hx
    obtain ⟨oi, fi, ei, qi⟩ := a.it_ob hit
    have hel : e < s.heap.objs.size := Heap.lt_size he
    have hil : it < s.heap.objs.size := Heap.lt_size ei
    have hh : X.A.in1.handled = none := I.ok.hd hc
    have l1 : i < its.toArray.size := by have := (List.getElem?_eq_some_iff.mp hu).1; simpa using this
    refine wpAny_pyNext_enum_itemC (a.draws hh it hn2 its.toArray) he ⟨hit, p⟩ l1 hne (by simp [hne, hn3]) fun v h' tk ev ho st' hT hsz hk => ?_
    have ev : v = u := by have ev : its[i]? = some v := by simpa using ev
                          rw [hu] at ev; exact (Option.some.inj ev).symm
    subst ev
    refine ⟨_, rfl, wpAny_letOwnedTupleGo_enum (s := { s with heap := h', toks := tk + 1 }) ho fun h'' he' sb => ?_⟩
    have hT2 : h''.get? s.heap.objs.size = some { cls := .type "tuple", data := .seq #[.int i tk, v] } := (sb.2 _ (Nat.ne_of_gt hel)).trans hT
    have new : ObjOk X.prog X.w (upd H s.heap.objs.size (.tup [.int (i : Nat), x])) h'' s.heap.objs.size (.tup [.int (i : Nat), x]) :=
      ⟨by show 2 ≤ sizeLine; decide, [.int i tk, v], .cons ⟨_, rfl⟩ (.cons ru .nil), ⟨_, hT2, rfl, _, rfl⟩⟩
    have I1 : L2.Inv X pins σ (upd H s.heap.objs.size (.tup [.int (i : Nat), x])) { s with heap := h'', toks := tk + 1 } :=
      I.turnedNew (ch := [e, it]) (fun b ob hb q => (sb.2 b (fun z => hb (by simp [z]))).trans (hk b ob (fun z => hb (by simp [z])) (fun z => hb (by simp [z])) q)) hf (Nat.le_refl _) new
    refine ⟨.ref s.heap.objs.size, _, I1, rfl, ⟨_, x, rfl, I.hok.fresh (Nat.le_refl _), rfl, fun ys hy => by rw [a.inj I hy hq]; exact hx⟩, ⟨⟨v, ?_⟩, a.it_keep st'.1 fun o q => (sb.2 it (Ne.symm hne)).trans q, hne, hn2, hn3⟩, fun b hb => ?_⟩
    · have e1 : ((i + 1 : Nat) : Int) = (i : Int) + 1 := by omega
      rw [e1]; exact he'
    · have hb' : b < s.heap.objs.size := by
        have e' : b = e ∨ b = it := by simpa using hb
        rcases e' with z | z
        · rw [z]; exact hel
        · rw [z]; exact hil
      rw [upd_ne (Nat.ne_of_lt hb')]
      exact (hf b hb).1
  done := by
    intro X hP hw hK hc i pins s σ H E I hf st hg
    subst hP hw hK
    obtain ⟨⟨old, he⟩, hit, hne, hn2, hn3⟩ := st
    obtain ⟨xs, hq, hx⟩ := hg
    obtain ⟨its, rv, p, pl⟩ := a.get I hq
    obtain ⟨f0, f1, f2, f3, f4, f5⟩ := hf it (by simp)
    have hl := rv.length
    have hh : X.A.in1.handled = none := I.ok.hd hc
    have en : i = its.toArray.size := by simp; omega
    subst en
    exact wpAny_pyNext_enum_endD (a.draws hh it hn2 its.toArray) he ⟨hit, p⟩ fun h' eb => ⟨rfl, I.turned (t' := s.toks) (fun b o hb q => eb b o hb q) f0 f1 f3 f4 f5⟩
  self := fun A i s Q E st h => let ⟨⟨_, he⟩, _⟩ := st; wpAny_pyIter_enum he h
set_option maxHeartbeats 1000000 in
/-- enumerate(v): as the library tells it with a start -/
theorem en_new1 {v : Value} {o : Obj} {G : Heap → Prop} (B : Begins v o G) :
    Meets (Builtin.«enumerate.__new__» ⟨[.type "enumerate", v], []⟩) (fun _ R s => G s.heap ∧
      R (.ok (.ret (.ref (s.heap.push o).objs.size))) { s with heap := (s.heap.push o).push { cls := .type "enumerate", data := .fields #[.none, .bool false, .ref s.heap.objs.size, rawInt 0, .none, .none] } }) :=
  .of_wp fun prog w A R s h => by
    obtain ⟨hp, g, d, tk, os⟩ := s
    obtain ⟨h1, h⟩ := h
    have hsub := sub_enumerate
    have q1 : ∀ {A' : Around} {E : Value → Shared → Prop} {Q : Value → Shared → Prop}, Q (.ref hp.objs.size) ⟨hp.push o, g, d, tk, os⟩ → wpAny (model prog w) A' (pyIter v) Q E ⟨hp, g, d, tk, os⟩ :=
      fun q => B.iter prog w _ _ ⟨hp, g, d, tk, os⟩ _ h1 q
    wp_walk using q1
    refine wpAny_stack_any fun st => wpAny_pure ?_
    split
    · rename_i c _ _ _ _ _
      cases (c == Value.type "enumerate") <;>
      · wp_walk using q1
        exact ⟨_, rfl, h⟩
    · wp_walk using q1
      exact ⟨_, rfl, h⟩
theorem en_call1 {prog : Program} {w : World} {A : Around} {E : Value → Shared → Prop} {s : Shared} {v : Value} {o : Obj} {G : Heap → Prop} {Q : Value → Shared → Prop} (B : Begins v o G) (h1 : G s.heap)
    (h : ∀ h', IsEnum h' (s.heap.objs.size + 1) s.heap.objs.size 0 .none → h'.get? s.heap.objs.size = some o → h'.objs.size = s.heap.objs.size + 2 →
      (∀ b o, s.heap.get? b = some o → h'.get? b = some o) → Q (.ref (s.heap.objs.size + 1)) { s with heap := h' }) :
    wpAny (model prog w) A (call (.type "enumerate") [v]) Q E s := by
  refine callType_new PySem.F.called_enumerate (by decide) (PySem.F.typeCall_enumerate_1 _) (PySem.F.newCall_enumerate_1 _) (fun obj => PySem.F.args_object_init_2 obj _) PySem.F.entry_enumerate_new
    (en_new1 B) ⟨h1, ?_⟩
  have hz : (s.heap.push o).objs.size = s.heap.objs.size + 1 := Heap.size_push ..
  show _ ∧ _
  rw [hz]
  have he := Heap.get?_push_size (s.heap.push o) (o := { cls := .type "enumerate", data := .fields #[.none, .bool false, .ref s.heap.objs.size, rawInt 0, .none, .none] }) rfl
  rw [hz] at he
  exact ⟨⟨_, he, rfl⟩, h _ he (Heap.get?_push_of_some _ (Heap.get?_push_size _ B.free)) (by rw [Heap.size_push, hz]) fun b o x => Heap.get?_push_of_some _ (Heap.get?_push_of_some _ x)⟩
def iZeA (K : PySem.W.Frag) (ta : TA) : TI := fun σ H R => ta σ H fun vs H1 => ∃ (a : Sc) (xs : List V), vs = [.ref a.ad] ∧ a.at_ K H1 xs ∧ R (Ize K a) H1
theorem pi_ze {X : Cx} {e : Expr} {ta : TA} {p pos tpos : Pos} {elts : List Expr} {kk : Nat} (hg : Gl X "enumerate") (hm : X.mg "enumerate" = none) (ha : PA X [e] ta) (hs : starEach [e] X.env = [(false, eval e X.env)] := by rfl) :
    PI X (.Tuple elts kk tpos) (.Call (.Name "enumerate" p) [e] [] pos) (iZeA X.K ta) := by
  refine ⟨fun pins s σ H R I h => ?_⟩
  refine Call_ (ld_blt I hg hm boot_enumerate (PyProof.Rows.callWith_type1 (thn (ha.run pos pins s σ H _ I h) fun us s1 ⟨vs, H1, I1, r1, q1⟩ => ?_) hs rfl))
  obtain ⟨a, xs, ex, hq, q⟩ := q1
  subst ex
  cases r1 with
  | cons r rr =>
    cases rr
    cases r
    obtain ⟨its, rv, p', pl⟩ := a.get I1 hq
    refine en_call1 (a.begins its.toArray) p' fun h' he hit hsz hk => wpAny_pyIter_enum he ?_
    have I2 : L2.Inv X pins σ H1 { s1 with heap := h' } := I1.kept (t' := s1.toks) hk
    refine ⟨s1.heap.objs.size + 1, [s1.heap.objs.size + 1, s1.heap.objs.size], _, _, H1, rfl, I2, turn_ze a (s1.heap.objs.size + 1) s1.heap.objs.size, ⟨⟨.none, he⟩, a.it_new hit, Nat.succ_ne_self _, Nat.ne_of_lt pl, Nat.ne_of_gt (Nat.lt_succ_of_lt pl)⟩, fun b hb => ?_, q⟩
    have e' : b = s1.heap.objs.size + 1 ∨ b = s1.heap.objs.size := by simpa using hb
    have hle : s1.heap.objs.size ≤ b := by
      rcases e' with z | z
      · rw [z]; exact Nat.le_add_right _ _
      · rw [z]; exact Nat.le_refl _
    exact I1.fpOk hle (I1.hok.fresh hle)
/-! ### over trees -/
section
variable {X : Cx} {e e2 : Expr} {fs : TAF} {pos p tpos : Pos} {elts : List Expr} {kk : Nat}
/-- what stands at c while H0 is kept but W -/
def ScAt (K : PySem.W.Frag) (H0 : Hp) (W : List Addr) (c : Sc) (vs : List V) : Prop := (c.tup = true ∧ SqT K H0 c.ad vs) ∨ (c.tup = false ∧ LsAt K H0 W c.ad vs)
theorem ScAt.kept {K : PySem.W.Frag} {H0 H : Hp} {W : List Addr} {c : Sc} {vs : List V} (h : ScAt K H0 W c vs) (kp : Kept W H0 H) : c.at_ K H vs := by
  unfold Sc.at_
  rcases h with ⟨e, h⟩ | ⟨e, h⟩
  · rw [e, if_pos rfl]; exact kp.sqT h
  · rw [e, if_neg Bool.false_ne_true]; exact h.kept kp
theorem sc_of {K : PySem.W.Frag} {H : Hp} {t : T} {xs : List D} {v : V} {ws W : List Addr} (h : itsOf t = some xs) (r : RepT K H t v ws) (nd : (ws ++ W).Nodup) : ∃ (c : Sc) (vs : List V), v = .ref c.ad ∧ ScAt K H W c vs ∧ RepDs K H xs vs := by
  have : (∃ zs, t = .d (.tuple zs)) ∨ seqOf t = some xs := by
    unfold itsOf at h
    split at h
    · exact .inr h
    · exact .inr h
    · exact .inl ⟨_, rfl⟩
    · cases h
  rcases this with ⟨zs, e⟩ | hq
  · subst e
    cases h
    obtain ⟨⟨a, vs, e1, ha, hr⟩, _⟩ := r
    exact ⟨⟨true, a⟩, vs, e1, .inl ⟨rfl, ha⟩, hr⟩
  · obtain ⟨a, us, e1, la, hr⟩ := ls_of hq r nd
    exact ⟨⟨false, a⟩, us, e1, .inr ⟨rfl, la⟩, hr⟩
def iZip (fs : TAF) : IF := fun ρ R => fs ρ fun os ρ1 => match os with
  | [.val t, .val u] => match itsOf t, itsOf u with
    | some xs, some ys => xs.length = ys.length ∧ R (zipD xs ys) ρ1
    | _, _ => False
  | _ => False
def iEnu (fs : TAF) : IF := fun ρ R => fs ρ fun os ρ1 => match os with
  | [.val t] => match itsOf t with
    | some xs => R (enumD 0 xs) ρ1
    | none => False
  | _ => False
theorem yld_zz {K : PySem.W.Frag} {H0 : Hp} {W : List Addr} {a b : Sc} {xs ys : List D} {vs us : List V} (hs : ScAt K H0 W a vs) (ht : ScAt K H0 W b us) (rp : RepDs K H0 xs vs) (rq : RepDs K H0 ys us) (el : xs.length = ys.length) (mu : ∀ b ∈ W, MutO H0 b) : Yld K (Izz K a b) H0 W (zipD xs ys) := fun H k => by
  have kp : Kept W H0 H := ⟨k, mu⟩
  have hs' := hs.kept kp
  have ht' := ht.kept kp
  have rp' := rp.keep kp
  have rq' := rq.keep kp
  have l1 := rp.length
  have l2 := rq.length
  refine ⟨fun i hi => ?_, fun i hi => ⟨vs, us, hs', ht', by rw [zipD_length] at hi; omega, by rw [zipD_length] at hi; omega, by rw [zipD_length] at hi; omega⟩⟩
  rw [zipD_length] at hi
  have hx : i < xs.length := by omega
  have hy : i < ys.length := by omega
  obtain ⟨v, hv, hr⟩ := rp'.get (List.getElem?_eq_getElem hx)
  obtain ⟨u, hu, hr2⟩ := rq'.get (List.getElem?_eq_getElem hy)
  refine ⟨⟨vs, us, v, u, hs', ht', hv, hu⟩, fun x H' y => ?_⟩
  obtain ⟨T, z1, z2, e1, hT, e2, y1, y2⟩ := y
  subst e1 e2
  have h1 := y1 vs hs'
  have h2 := y2 us ht'
  rw [hv] at h1; cases h1
  rw [hu] at h2; cases h2
  obtain ⟨s1, r1⟩ := pair_rep hT hr hr2
  exact ⟨s1, _, zipD_get xs ys i _ _ (List.getElem?_eq_getElem hx) (List.getElem?_eq_getElem hy), r1⟩
theorem yld_ze {K : PySem.W.Frag} {H0 : Hp} {W : List Addr} {a : Sc} {xs : List D} {vs : List V} (hs : ScAt K H0 W a vs) (rp : RepDs K H0 xs vs) (mu : ∀ b ∈ W, MutO H0 b) : Yld K (Ize K a) H0 W (enumD 0 xs) := fun H k => by
  have kp : Kept W H0 H := ⟨k, mu⟩
  have hs' := hs.kept kp
  have rp' := rp.keep kp
  have l1 := rp.length
  refine ⟨fun i hi => ?_, fun i hi => ⟨vs, hs', by rw [enumD_length] at hi; omega⟩⟩
  rw [enumD_length] at hi
  obtain ⟨v, hv, hr⟩ := rp'.get (List.getElem?_eq_getElem hi)
  refine ⟨⟨vs, v, hs', hv⟩, fun x H' y => ?_⟩
  obtain ⟨T, z1, e1, hT, e2, y1⟩ := y
  subst e1 e2
  have h1 := y1 vs hs'
  rw [hv] at h1; cases h1
  obtain ⟨s1, r1⟩ := pair_rep (x := .int (i : Nat)) hT rfl hr
  exact ⟨s1, _, by simpa using enumD_get xs 0 i _ (List.getElem?_eq_getElem hi), r1⟩
theorem vi_zip (ha : VA X [e, e2] fs) (hg : Gl X "zip") (hm : X.mg "zip" = none) (hs : starEach [e, e2] X.env = (false, eval e X.env) :: starEach [e2] X.env := by rfl) (hpl : (backTo pos (starEach [e2] X.env)).any (·.1) = false := by rfl) :
    VI X (.Tuple elts kk tpos) (.Call (.Name "zip" p) [e, e2] [] pos) (iZip fs) := (pi_zz hg hm ha hs hpl).pwi fun σ H R ⟨P, ρ, W, Rq, G, q, k⟩ => ⟨P, ρ, W, _, G, q, fun vs H1 os ρ1 r1 h1 => by
    obtain ⟨ws, W1, G1, st, nd, rp⟩ := r1.good G
    split at h1
    · rename_i t u
      split at h1
      · rename_i xs ys hq hq2
        obtain ⟨v, r, w1, w2, ev, hv, ⟨v2, r2, w3, w4, ev2, hv2, ⟨er, ew2⟩, ew3⟩, ew⟩ := rp
        subst ev ev2 er ew2 ew3 ew
        have hv : RepT X.K H1 t v w1 := hv
        have hv2 : RepT X.K H1 u v2 w3 := hv2
        have nd1 : (w1 ++ (w3 ++ W1)).Nodup := by simpa [List.append_assoc] using nd
        obtain ⟨a, us, e1, la, hr⟩ := sc_of hq hv (W := W1) (nd1.sublist (List.Sublist.append (List.Sublist.refl _) (List.sublist_append_right _ _)))
        obtain ⟨b, us2, e2, lb, hr2⟩ := sc_of hq2 hv2 (W := W1) (nd_right nd1)
        subst e1 e2
        exact ⟨a, b, us, us2, rfl, la.kept ⟨fun _ _ h _ => h, G1.mut⟩, lb.kept ⟨fun _ _ h _ => h, G1.mut⟩, k _ _ _ ρ1 ⟨W1, st.drop, G1, yld_zz la lb hr hr2 h1.1 G1.mut⟩ h1.2⟩
      · exact h1.elim
    · exact h1.elim⟩
theorem vi_enu (ha : VA X [e] fs) (hg : Gl X "enumerate") (hm : X.mg "enumerate" = none) (hs : starEach [e] X.env = [(false, eval e X.env)] := by rfl) :
    VI X (.Tuple elts kk tpos) (.Call (.Name "enumerate" p) [e] [] pos) (iEnu fs) := (pi_ze hg hm ha hs).pwi fun σ H R ⟨P, ρ, W, Rq, G, q, k⟩ => ⟨P, ρ, W, _, G, q, fun vs H1 os ρ1 r1 h1 => by
    obtain ⟨ws, W1, G1, st, nd, rp⟩ := r1.good G
    split at h1
    · rename_i t
      split at h1
      · rename_i xs hq
        obtain ⟨v, r, w1, w2, ev, hv, ⟨er, ew2⟩, ew⟩ := rp
        subst ev er ew2 ew
        have hv : RepT X.K H1 t v w1 := hv
        obtain ⟨a, us, e1, la, hr⟩ := sc_of hq hv (W := W1) (by simpa using nd)
        subst e1
        exact ⟨a, us, rfl, la.kept ⟨fun _ _ h _ => h, G1.mut⟩, k _ _ _ ρ1 ⟨W1, st.drop, G1, yld_ze la hr G1.mut⟩ h1⟩
      · exact h1.elim
    · exact h1.elim⟩
end
end PW
end PwZ
section PwM
set_option maxRecDepth 100000
/-! PwM: abs, chained comparisons of numbers, isinstance of one of two, three names at once. -/
namespace PW
open PySem PySem.Spec L2
open PyProof.Rows hiding St
section
variable {X : Cx} {fx : List Nat} {a b c e : Expr} {es : List Expr} {pos : Pos} {f fa fb fc : TF} {fs : TAF} {vs : List V} {H : Hp} {K : PySem.W.Frag} {i j l : Nat}
def oAbs : OF := fun ts R => match ts with
  | [.d (.int i)] => R (.d (.int (if i < 0 then -i else i)))
  | _ => False
theorem oc_abs : OpOk K oAbs fun xs H Q => ∃ i, xs = [.int i] ∧ Q (.int (if i < 0 then -i else i)) H := by
  intro ts vs H Q R b h k
  unfold oAbs at h
  split at h
  · rename_i i
    obtain ⟨v, _, e, ⟨h1, _⟩⟩ := b1 b
    have h1 : v = .int i := h1
    subst h1
    exact ⟨i, e, k _ _ (.d (.int _)) [] (Same.refl _) nofresh (by simp) ⟨rfl, rfl⟩ h⟩
  · exact h.elim
/-! ### a < b < c -/
def fCh (p q : Int → Int → Bool) (f g h : TF) : TTF := fun ρ Q => f ρ fun o1 ρ1 => g ρ1 fun o2 ρ2 => match o1, o2 with
  | .val (.d (.int i)), .val (.d (.int j)) => if p i j = true then h ρ2 fun o3 ρ3 => match o3 with
    | .val (.d (.int k)) => Q (q j k) ρ3
    | _ => False
    else Q false ρ2
  | _, _ => False
theorem ch_core {p q : Int → Int → Bool} {f g h : TF} {σ : St} {Q : Bool → Hp → Prop} (hh : tTO K (fCh p q f g h) σ H Q) : tChain (rI0 fun i j => .bl (p i j)) (rI0 fun i j => .bl (q i j)) (tO K f) (tO K g) (tO K h) σ H (fun x H' => ∃ k, x = .bl k ∧ Q k H') := by
  obtain ⟨P, ρ, W, R, G, qq, k⟩ := hh
  refine ⟨P, ρ, W, _, G, qq, fun v H1 o1 ρ1 r1 h1 => ?_⟩
  obtain ⟨ws, W1, G1, st, nd, rp⟩ := r1.good G
  refine ⟨P, ρ1, W1, _, G1, h1, fun u H2 o2 ρ2 r2 h2 => ?_⟩
  obtain ⟨ws2, W2, G2, st2, nd2, rp2⟩ := r2.good G1
  have st3 : Step W W2 H H2 := by simpa using st.drop.trans (ws := []) (by simpa using st2.drop) (by simpa using G1.nd)
  split at h2
  · rename_i i j
    have ev : v = .int i := rp.1
    have eu : u = .int j := rp2.1
    subst ev eu
    refine ⟨i, j, rfl, rfl, _, rfl, ?_⟩
    by_cases hp : p i j = true
    · rw [if_pos hp] at h2
      rw [if_pos hp]
      refine ⟨P, ρ2, W2, _, G2, h2, fun w H3 o3 ρ3 r3 h3 => ?_⟩
      obtain ⟨ws3, W3, G3, st4, nd3, rp3⟩ := r3.good G2
      split at h3
      · rename_i n
        have ew : w = .int n := rp3.1
        subst ew
        refine ⟨j, n, rfl, rfl, _, rfl, k _ _ _ ⟨W3, ?_, G3⟩ h3⟩
        simpa using st3.trans (ws := []) (by simpa using st4.drop) (by simpa using G2.nd)
      · exact h3.elim
    · rw [if_neg hp] at h2
      rw [if_neg hp]
      exact ⟨false, rfl, k _ _ _ ⟨W2, st3, G2⟩ h2⟩
  · exact h2.elim
theorem vt_ch {op op' : CmpOp} {p q : Int → Int → Bool} (ho : OpR X (compareOp op) (rI0 fun i j => .bl (p i j))) (ho' : OpR X (compareOp op') (rI0 fun i j => .bl (q i j))) (ha : VE X a fa) (hb : VE X b fb) (hc : VE X c fc)
    (hm : lastMarks [op, op'] [b, c] = false := by with_unfolding_all rfl) : VT X (.Compare a [op, op'] [b, c] pos) (fCh p q fa fb fc) := (pt_chain ho ho' ha hb hc hm).pwi fun σ H Q h => ch_core h
theorem ofT_core {t : TTF} {σ : St} {Q : VK} (h : tO K (fOfT t) σ H Q) : tTO K t σ H fun k H' => Q (.bl k) H' := by
  obtain ⟨P, ρ, W, R, G, q, k⟩ := h
  refine ⟨P, ρ, W, _, G, q, fun b H1 ρ1 ⟨W1, st, G1⟩ h1 => k _ _ (.val (.d (.bool b))) _ ⟨[], W1, by simpa using st, by simpa using G1.nd, G1.sr, ⟨rfl, rfl⟩⟩ h1⟩
theorem chain_mono {K : PySem.W.Frag} {p q : Int → Int → Bool} {f g h : TF} {σ : St} {H : Hp} {Q Q' : VK} (hh : tChain (rI0 fun i j => .bl (p i j)) (rI0 fun i j => .bl (q i j)) (tO K f) (tO K g) (tO K h) σ H Q) (m : ∀ v H', Q v H' → Q' v H') :
    tChain (rI0 fun i j => .bl (p i j)) (rI0 fun i j => .bl (q i j)) (tO K f) (tO K g) (tO K h) σ H Q' :=
  tO_mono hh fun v H1 h1 => tO_mono h1 fun u H2 ⟨i, j, e1, e2, k, ek, h2⟩ => ⟨i, j, e1, e2, k, ek, by
    by_cases hk : k = true
    · rw [if_pos hk] at h2 ⊢
      exact tO_mono h2 fun w H3 ⟨i', j', e3, e4, h3⟩ => ⟨i', j', e3, e4, m _ _ h3⟩
    · rw [if_neg hk] at h2 ⊢
      exact m _ _ h2⟩
theorem ve_ch {op op' : CmpOp} {p q : Int → Int → Bool} (ho : OpR X (compareOp op) (rI0 fun i j => .bl (p i j))) (ho' : OpR X (compareOp op') (rI0 fun i j => .bl (q i j))) (ha : VE X a fa) (hb : VE X b fb) (hc : VE X c fc)
    (hm : lastMarks [op, op'] [b, c] = false := by with_unfolding_all rfl) : VE X (.Compare a [op, op'] [b, c] pos) (fOfT (fCh p q fa fb fc)) := (pe_chain ho ho' ha hb hc hm).pwi fun σ H Q h => chain_mono (ch_core (ofT_core h)) fun v H' ⟨k, e, q⟩ => by subst e; exact q
/-! ### isinstance(e, (T, U)) -/
def fIsi2 (c d : Ty) (f : TF) : TF := fun ρ Q => f ρ fun o ρ1 => withR ρ1 [o] fun ts => match ts with
  | [.ex _ _ _] => False
  | [.ob _ _] => False
  | [t] => Q (.val (.d (.bool ((tyOf t).isi c || (tyOf t).isi d)))) ρ1
  | _ => False
theorem Kept.ty {K : PySem.W.Frag} {H H' : Hp} {t : T} {v : V} {ws : List Addr} (sm : Same H H') (r : RepT K H t v ws) (ne : notEx t) : TyX K H' v (.type (tyOf t).name) := (r.keep (W := []) (.same sm) (by simp)).ty ne
theorem ve_isi2 {c d : Ty} {y y2 : Str} {k : Nat} {p py py2 tpos : Pos} (hg : Gl X "isinstance") (hm : X.mg "isinstance" = none) (hy : Gl X y) (hmy : X.mg y = none) (hv : bootBuiltins y = some (.type c.name)) (hy2 : Gl X y2) (hmy2 : X.mg y2 = none) (hv2 : bootBuiltins y2 = some (.type d.name)) (ha : VE X e f)
    (hny : y ≠ "__name__" := by decide) (hdy : (y == ("__debug__" : Str)) = false := by decide) (hny2 : y2 ≠ "__name__" := by decide) (hdy2 : (y2 == ("__debug__" : Str)) = false := by decide)
    (hs1 : starEach [e, .Tuple [.Name y py, .Name y2 py2] k tpos] X.env = (false, eval e X.env) :: starEach [.Tuple [.Name y py, .Name y2 py2] k tpos] X.env := by rfl) (hs2 : starEach [.Tuple [.Name y py, .Name y2 py2] k tpos] X.env = [(false, eval (.Tuple [.Name y py, .Name y2 py2] k tpos) X.env)] := by rfl)
    (hs3 : starEach [.Name y py, .Name y2 py2] X.env = (false, eval (.Name y py) X.env) :: starEach [.Name y2 py2] X.env := by rfl) (hs4 : starEach [.Name y2 py2] X.env = [(false, eval (.Name y2 py2) X.env)] := by rfl) :
    VE X (.Call (.Name "isinstance" p) [e, .Tuple [.Name y py, .Name y2 py2] k tpos] [] pos) (fIsi2 c d f) := by
  have hp : PE X (.Name y py) (tC (.ty c.name)) := pe_bltn hy hmy hv rfl hny hdy
  have hp2 : PE X (.Name y2 py2) (tC (.ty d.name)) := pe_bltn hy2 hmy2 hv2 rfl hny2 hdy2
  have ht : PE X (.Tuple [.Name y py, .Name y2 py2] k tpos) (tTup (tCons (tC (.ty c.name)) (tCons (tC (.ty d.name)) tNil))) := pe_tup (pa_cons hp (pa_cons hp2 pa_nil (by rw [hs4]; rfl)) hs3)
  have := pe_callB (pos := pos) (p := p) call_isiT hg hm boot_isinstance (pa_cons ha (pa_cons ht pa_nil (by rw [hs2]; rfl)) hs1) (by decide) (by decide) hs1 (by rw [hs2]; rfl)
  refine this.pwi fun σ H Q ⟨P, ρ, W, R, G, q, kQ⟩ => ⟨P, ρ, W, _, G, q, fun v H1 o ρ1 r1 h1 => ?_⟩
  obtain ⟨ws, W1, G1, st, nd, rp⟩ := r1.good G
  obtain ⟨ts, bt, h2⟩ := withR_ok G1.sr (os := [o]) (vs := [v]) (ws := ws) ⟨v, [], ws, [], rfl, rp, ⟨rfl, rfl⟩, by simp⟩ h1
  split at h2
  · exact h2.elim
  · exact h2.elim
  · rename_i t hne hne2
    have ne : notEx t := by cases t <;> first | exact True.intro | exact hne _ _ _ rfl | exact hne2 _ _ rfl
    obtain ⟨v', ws', e', rt⟩ := b1 bt
    injection e' with e' _
    subst e'
    refine ⟨by show 2 ≤ sizeLine; decide, fun tp htp => ?_⟩
    have sm : Same H1 (upd H1 tp (.tup [.ty c.name, .ty d.name])) := same_upd htp
    refine ⟨v, tp, [.ty c.name, .ty d.name], _, _, _, rfl, upd_same, .cons (.ty _) (.cons (.ty _) .nil), Kept.ty sm rt ne, ?_, kQ _ _ (.val (.d (.bool ((tyOf t).isi c || (tyOf t).isi d)))) _ ⟨[], W1, ?_, by simpa using G1.nd, G1.sr.after (W0 := []) (fun b o h _ => sm b o h) (by simp) (by simp) (by simp), ⟨rfl, rfl⟩⟩ h2⟩
    · refine kitAny_cons (Ty.kit (tyOf t) c) (fun hf => ?_) fun ht => by rw [ht]; rfl
      rw [hf, Bool.false_or]
      refine kitAny_cons (Ty.kit (tyOf t) d) (fun hf => ?_) fun ht => ht
      rw [hf]; rfl
    · refine ⟨fun b o hb hn => sm b o (st.drop.keep b o hb hn), fun b hb => st.drop.new b (by simpa using hb)⟩
  · exact h2.elim
end

section
variable {X : Cx} {fx : List Nat} {pos : Pos} {fs : TAF} {K : PySem.W.Frag} {P : Addr → Prop} {H : Hp}
def setO : List Nat → List T → List Slot → List Slot
  | i :: is, t :: ts, ρ => setO is ts (ρ.set i (.own t))
  | _, _, ρ => ρ
def setV : List Nat → List V → St → St
  | i :: is, v :: vs, σ => setV is vs (σ.set i (some v))
  | _, _, σ => σ
theorem SR.puts : ∀ {is : List Nat} {ts : List T} {vs : List V} {ws W1 : List Addr} {ρ : List Slot} {σ : St}, SR K P H ρ σ W1 → (ws ++ W1).Nodup → RepTs K H ts vs ws → is.length = ts.length → (∀ i ∈ is, i < ρ.length) →
    ∃ W2, SR K P H (setO is ts ρ) (setV is vs σ) W2 ∧ (∀ b ∈ W2, b ∈ ws ++ W1) ∧ W2.Nodup
  | [], [], vs, ws, W1, ρ, σ, sr, nd, ⟨e, ew⟩, _, _ => by subst e ew; exact ⟨W1, sr, fun b hb => hb, by simpa using nd⟩
  | [], _ :: _, _, _, _, _, _, _, _, _, h, _ => by simp at h
  | _ :: _, [], _, _, _, _, _, _, _, _, h, _ => by simp at h
  | i :: is, t :: ts, vs, ws, W1, ρ, σ, sr, nd, ⟨v, r, w1, w2, e, h1, h2, ew⟩, hl, hi => by
    subst e ew
    have nd1 : (w1 ++ (w2 ++ W1)).Nodup := by simpa [List.append_assoc] using nd
    obtain ⟨W2, sr2, m2, n2⟩ := sr.put (i := i) (t := t) (v := v) (ws := w1) (nd1.sublist (List.Sublist.append (List.Sublist.refl _) (List.sublist_append_right _ _))) (hi i (by simp)) h1
    have hd : ∀ b ∈ w2, b ∉ W2 := fun b hb z => by
      rcases List.mem_append.mp (m2 b z) with z | z
      · exact nd_apart nd1 b z (List.mem_append_left _ hb)
      · exact nd_apart (nd_right nd1) b hb z
    obtain ⟨W3, sr3, m3, n3⟩ := SR.puts (is := is) sr2 (nd_mk (nd_left (nd_right nd1)) n2 hd) h2 (by simpa using hl) (fun k hk => by rw [List.length_set]; exact hi k (by simp [hk]))
    refine ⟨W3, sr3, fun b hb => ?_, n3⟩
    rcases List.mem_append.mp (m3 b hb) with z | z
    · simp [z]
    · rcases List.mem_append.mp (m2 b z) with z | z <;> simp [z]
theorem setV_length : ∀ (is : List Nat) (vs : List V) (σ : St), (setV is vs σ).length = σ.length
  | [], _, _ => by unfold setV; rfl
  | _ :: _, [], _ => by unfold setV; rfl
  | i :: is, v :: vs, σ => by unfold setV; rw [setV_length is vs, List.length_set]
theorem Fx.sets {σ : St} : ∀ (is : List Nat) (vs : List V) (σ0 : St), Fx fx σ σ0 → (∀ i ∈ is, i ∉ fx) → Fx fx σ (setV is vs σ0)
  | [], _, _, h, _ => by unfold setV; exact h
  | _ :: _, [], _, h, _ => by unfold setV; exact h
  | i :: is, v :: vs, σ0, h, hi => by unfold setV; exact Fx.sets is vs _ (h.set (hi i (by simp))) fun k hk => hi k (by simp [hk])
theorem vals_ts : ∀ {os : List Opv} {ts : List T} {vs : List V} {ws : List Addr} {σ : St}, valsO os = some ts → RepOs K H σ os vs ws → RepTs K H ts vs ws
  | [], ts, vs, ws, _, h, ⟨e, ew⟩ => by cases h; exact ⟨e, ew⟩
  | .slot _ :: _, _, _, _, _, h, _ => by cases h
  | .val t :: os, ts, vs, ws, σ, h, ⟨v, r, w1, w2, e, h1, h2, ew⟩ => by
    unfold valsO at h
    split at h
    · rename_i ts' ht
      cases h
      exact ⟨v, r, w1, w2, e, h1, vals_ts ht h2, ew⟩
    · cases h
/-- a, b, c = x, y, z: three local names -/
def sPar3 (i j l : Nat) (fs : TAF) : SF := fun E ρ => fs ρ fun os ρ1 => match os with
  | [.val t, .val u, .val v] => E.nx (((ρ1.set i (.own t)).set j (.own u)).set l (.own v))
  | _ => False
theorem vs_par3 {i j l : Nat} {x y z : Str} {a b c : Expr} {px py pz pt : Pos} {kt k2 pt2} (hc : X.calm = true) (hN : X.N.Nodup) (hi : X.N[i]? = some x) (hj : X.N[j]? = some y) (hl : X.N[l]? = some z) (hij : i ≠ j) (hil : i ≠ l) (hjl : j ≠ l)
    (hx : X.env.scope.names.lookup x = some .local) (hy : X.env.scope.names.lookup y = some .local) (hz : X.env.scope.names.lookup z = some .local) (ha : VA X [a, b, c] fs)
    (hw : swappedStores [.Tuple [.Name x px, .Name y py, .Name z pz] kt pt] (.Tuple [a, b, c] k2 pt2) X.env = pure (some [x, y, z])) (hfi : i ∉ fx) (hfj : j ∉ fx) (hfl : l ∉ fx)
    (hs : swapsWithSole [.Tuple [.Name x px, .Name y py, .Name z pz] kt pt] (.Tuple [a, b, c] k2 pt2) pos.line X.env = pure false := by rfl) :
    VS X fx (.Assign [.Tuple [.Name x px, .Name y py, .Name z pz] kt pt] (.Tuple [a, b, c] k2 pt2) pos) (sPar3 i j l fs) :=
  PS.pwI (ps_par3 hc hN hi hj hl hij hil hjl hx hy hz ha hw hs) fun pins s D σ H I ⟨P, ρ, W, E, G, q, k1, k2, k3, k4, k5⟩ => by
    have li : i < σ.length := by rw [I.len]; exact (List.getElem?_eq_some_iff.mp hi).1
    have lj : j < σ.length := by rw [I.len]; exact (List.getElem?_eq_some_iff.mp hj).1
    have ll : l < σ.length := by rw [I.len]; exact (List.getElem?_eq_some_iff.mp hl).1
    refine ⟨P, ρ, W, _, G, q, fun vs H1 os ρ1 ⟨ws, W1, st, nd, sr, rp⟩ h1 => ?_⟩
    split at h1
    · rename_i t u v _
      have ts := vals_ts (ts := [t, u, v]) rfl rp
      have hlr : ρ1.length = σ.length := sr.len.symm
      obtain ⟨W2, sr2, m2, n2⟩ := sr.puts (is := [i, j, l]) nd ts rfl (fun k hk => by
        rw [hlr]
        rcases List.mem_cons.mp hk with rfl | hk
        · exact li
        rcases List.mem_cons.mp hk with rfl | hk
        · exact lj
        have : k = l := by simpa using hk
        subst this; exact ll)
      obtain ⟨x1, r1, w1, w2, e1, _, ⟨x2, r2, w3, w4, e2, _, ⟨x3, r3, w5, w6, e3, _, ⟨e4, _⟩, _⟩, _⟩, _⟩ := ts
      subst e1 e2 e3 e4
      have ap := G.apart st
      refine ⟨x1, x2, x3, rfl, k1 _ _ _ ⟨W2, ⟨st.keep, fun b hb => st.new b (m2 b hb)⟩, ⟨sr2, n2, fun b hb => ⟨fun z => (ap b hb).1 (m2 b z), (ap b hb).2⟩⟩, ?_⟩ h1⟩
      exact Fx.sets [i, j, l] [x1, x2, x3] σ .refl fun k hk => by
        rcases List.mem_cons.mp hk with rfl | hk
        · exact hfi
        rcases List.mem_cons.mp hk with rfl | hk
        · exact hfj
        have : k = l := by simpa using hk
        subst this; exact hfl
    · exact h1.elim
end
end PW
end PwM
section PwQ
set_option maxRecDepth 100000
/-! PwQ: calls with keywords: the arguments are data. -/
namespace PW
open PySem PySem.Spec L2
open PyProof.Rows hiding St
section
variable {K : PySem.W.Frag} {P : Addr → Prop} {H H1 : Hp} {σ : St} {W : List Addr} {ρ : List Slot} {f g fs fk : TAF}
/-- one row of arguments behind another -/
def fCat (f g : TAF) : TAF := fun ρ Q => f ρ fun os ρ1 => g ρ1 fun os2 ρ2 => Q (os ++ os2) ρ2
theorem RepOs.append : ∀ {os os2 : List Opv} {vs us : List V} {w w2 : List Addr}, RepOs K H σ os vs w → RepOs K H σ os2 us w2 → RepOs K H σ (os ++ os2) (vs ++ us) (w ++ w2)
  | [], _, _, _, _, _, ⟨e, ew⟩, h => by subst e ew; exact h
  | o :: os, _, _, _, _, _, ⟨v, r, w1, w3, e, h1, h2, ew⟩, h => by subst e ew; exact ⟨v, _, w1, _, rfl, h1, RepOs.append h2 h, List.append_assoc ..⟩
theorem cat_core {Q : List V → Hp → Prop} (h : tAO K (fCat f g) σ H Q) : tAO K f σ H fun vs H1 => tAO K g σ H1 fun us H2 => Q (vs ++ us) H2 := by
  obtain ⟨P, ρ, W, R, G, q, k⟩ := h
  refine ⟨P, ρ, W, _, G, q, fun vs H1 os ρ1 r1 h1 => ?_⟩
  obtain ⟨ws, W1, G1, st, nd, rp⟩ := r1.good G
  refine ⟨P, ρ1, W1, _, G1, h1, fun us H2 os2 ρ2 ⟨ws2, W2, st2, nd2, sr2, rp2⟩ h2 => k _ _ _ _ ?_ h2⟩
  obtain ⟨st3, nd3⟩ := glue st nd rp.mut st2 nd2
  exact ⟨ws ++ ws2, W2, by rw [List.append_assoc]; exact st3, by rw [List.append_assoc]; exact nd3, sr2, (rp.keep ⟨st2.keep, G1.mut⟩ fun b hb => nd_apart nd b hb).append rp2⟩
/-- data among operands -/
def dsO : List Opv → Option (List D)
  | [] => some []
  | .val (.d x) :: os => match dsO os with
    | some xs => some (x :: xs)
    | none => none
  | _ :: _ => none
theorem dsO_rep : ∀ {os : List Opv} {xs : List D} {vs : List V} {ws : List Addr}, dsO os = some xs → RepOs K H σ os vs ws → RepDs K H xs vs
  | [], xs, vs, ws, h, ⟨e, _⟩ => by cases h; exact e
  | .val (.d x) :: os, xs, vs, ws, h, ⟨v, r, w1, w2, e, h1, h2, _⟩ => by
    unfold dsO at h
    split at h
    · rename_i ys hy
      cases h
      exact ⟨v, r, e, h1.1, dsO_rep hy h2⟩
    · cases h
  | .val (.ls _) :: _, _, _, _, h, _ => by cases h
  | .val (.lt _) :: _, _, _, _, h, _ => by cases h
  | .val (.dk _) :: _, _, _, _, h, _ => by cases h
  | .val (.tp _) :: _, _, _, _, h, _ => by cases h
  | .val (.ex _ _ _) :: _, _, _, _, h, _ => by cases h
  | .val (.ob _ _) :: _, _, _, _, h, _ => by cases h
  | .val (.pt _) :: _, _, _, _, h, _ => by cases h
  | .slot _ :: _, _, _, _, h, _ => by cases h
/-- the value of a default -/
def vOf : D → V
  | .bool b => .bl b
  | .int i => .int i
  | .str s => .str s
  | _ => .non
def scal : D → Bool
  | .none => true
  | .bool _ => true
  | .int _ => true
  | .str _ => true
  | _ => false
theorem vOf_rep : ∀ {d : D}, scal d = true → RepD K H d (vOf d)
  | .none, _ => rfl
  | .bool _, _ => rfl
  | .int _, _ => rfl
  | .str _, _ => rfl
  | .tuple _, h => by cases h
  | .list _, h => by cases h
  | .dict _, h => by cases h
/-- parameters: an argument's number, or a default -/
inductive Pm where
  | a (i : Nat) | d (x : D)
def pmD (xs : List D) : List Pm → Option (List D)
  | [] => some []
  | .a i :: r => match xs[i]?, pmD xs r with
    | some x, some ys => some (x :: ys)
    | _, _ => none
  | .d x :: r => if scal x = true then match pmD xs r with
    | some ys => some (x :: ys)
    | none => none
    else none
def pmV (vs : List V) : List Pm → List V
  | [] => []
  | .a i :: r => vs.getD i .non :: pmV vs r
  | .d x :: r => vOf x :: pmV vs r
theorem pm_rep {xs : List D} {vs : List V} (h : RepDs K H xs vs) : ∀ {pm : List Pm} {ys : List D}, pmD xs pm = some ys → RepDs K H ys (pmV vs pm)
  | [], ys, e => by cases e; rfl
  | .a i :: r, ys, e => by
    unfold pmD at e
    split at e
    · rename_i x zs hx hz
      cases e
      obtain ⟨v, hv, rv⟩ := h.get hx
      refine ⟨v, _, ?_, rv, pm_rep h hz⟩
      show vs.getD i .non :: _ = _
      rw [List.getD_eq_getElem?_getD, hv]; rfl
    · cases e
  | .d x :: r, ys, e => by
    unfold pmD at e
    split at e
    · rename_i hs
      split at e
      · rename_i zs hz
        cases e
        exact ⟨_, _, rfl, vOf_rep hs, pm_rep h hz⟩
      · cases e
    · cases e
def vals (xs : List D) : List Opv := xs.map fun x => .val (.d x)
theorem vals_rep : ∀ {xs : List D} {vs : List V}, RepDs K H xs vs → RepOs K H σ (vals xs) vs []
  | [], vs, h => ⟨h, rfl⟩
  | x :: xs, vs, ⟨v, r, e, h1, h2⟩ => ⟨v, r, [], [], e, ⟨h1, rfl⟩, vals_rep h2, rfl⟩
/-- the arguments in the parameters' order -/
def fPerm (pm : List Pm) (fs : TAF) : TAF := fun ρ Q => fs ρ fun os ρ1 => match dsO os with
  | some xs => match pmD xs pm with
    | some ys => Q (vals ys) ρ1
    | none => False
  | none => False
theorem perm_core {pm : List Pm} {Q : List V → Hp → Prop} (h : tAO K (fPerm pm fs) σ H Q) : tAO K fs σ H fun vs H1 => Q (pmV vs pm) H1 := by
  obtain ⟨P, ρ, W, R, G, q, k⟩ := h
  refine ⟨P, ρ, W, _, G, q, fun vs H1 os ρ1 r1 h1 => ?_⟩
  obtain ⟨ws, W1, st, nd, sr, rp⟩ := r1
  split at h1
  · rename_i xs hx
    split at h1
    · rename_i ys hy
      exact k _ _ (vals ys) _ ⟨[], W1, by simpa using st.drop, by simpa using nd_right nd, sr, vals_rep (pm_rep (dsO_rep hx rp) hy)⟩ h1
    · exact h1.elim
  · exact h1.elim
end
/-- a def that may be called with np arguments by place and the keywords ks -/
structure CalK (Pg : Program) (w : World) (K : PySem.W.Frag) (mg : Str → Option Value) (base : Heap) (k n : Nat) (x : Str) (S : FS) (np : Nat) (ks : List Str) (pm : List Pm) : Prop where
  ex : ∃ (fa : Addr) (fd : FuncData) (ps : List Str) (g : List Value → List Value → List Value) (gV : List V → List V → List V), FnOk Pg w K mg base CX0 k fa fd ps (spO K n S) ∧ mg x = some (.ref fa) ∧ PySem.W.keepIn K (.ref fa) = true ∧ KBn K fd ps np ks g gV ∧
    ∀ vs zs : List V, vs.length = np → zs.length = ks.length → gV vs zs = pmV (vs ++ zs) pm
section
variable {X : Cx} {e : Expr} {es : List Expr} {kws : List Keyword} {pos p kpos : Pos} {f : TF} {fs fk : TAF} {nm : Option Str}
def VKw (X : Cx) (kws : List Keyword) (f : TAF) : Prop := PK X kws (tAO X.K f)
theorem vk_nil : VKw X [] fNil := ⟨fun pos pins s σ H Q I ⟨P, ρ, W, R, G, q, k⟩ => pk_nil.run pos pins s σ H Q I (k [] _ [] _ ⟨[], W, Step.refl _ _, by simpa using G.nd, G.sr, ⟨rfl, rfl⟩⟩ q)⟩
theorem vk_cons (ha : VE X e f) (hr : VKw X kws fk) : VKw X (⟨nm, e, kpos⟩ :: kws) (fCons f fk) := ⟨fun pos pins s σ H Q I h => (pk_cons ha hr).run pos pins s σ H Q I (cons_core h)⟩
theorem pe_callN0 {CX : CXT} {k n : Nat} {f : Addr} {fd : FuncData} {ps ks : List Str} {sp : Sp} {E : XK} {x : Str} {tk : TA} {g : List Value → List Value → List Value} {gV : List V → List V → List V} (F : FnOk X.prog X.w X.K X.mg X.base CX k f fd ps sp) (hr : Room k X.A) (hg : Gl X x) (hm : X.mg x = some (.ref f)) (hk : PySem.W.keepIn X.K (.ref f) = true) (hb : KBn X.K fd ps n ks g gV) (hx : Passes CX X E)
    (hkw : PK X kws tk) (hall : (backToKw pos (keywordEach kws X.env)).all (·.1.isSome) = true := by rfl) (hks : (backToKw pos (keywordEach kws X.env)).filterMap (·.1) = ks := by rfl)
    (hdb : (x == ("__debug__" : Str)) = false := by decide)
    (hpl : ((backTo pos (starEach [] X.env)).any (·.1) || (backToKw pos (keywordEach kws X.env)).any (·.1.isNone)) = false := by rfl) :
    PE X (.Call (.Name x p) [] kws pos) (tCallN n ks.length sp gV E tNil tk) := by
  refine ⟨fun pins s σ H Q I h => ?_⟩
  refine wpAny_Call_Name_kw (ld_glob I hg hm ?_ hdb)
  refine PySem.W.callWith_KW0 (h₀ := X.base) I.ok.mod.kin hk hall ?_ hpl
  refine thn (hkw.run pos pins s σ H _ I h) fun ws s2 ⟨zs, H2, I2, rz, l1, l2, q2⟩ => ⟨I2.kIn, ?_⟩
  rw [hks]
  exact run_fnN (us := []) (vs := []) F hr hb hx I2 .nil rz l1 l2 q2
/-- as long as they are told to be -/
def fLenA (n : Nat) (fs : TAF) : TAF := fun ρ Q => fs ρ fun os ρ1 => os.length = n ∧ Q os ρ1
theorem lenA_core {K : PySem.W.Frag} {n : Nat} {σ : St} {H : Hp} {Q : List V → Hp → Prop} (h : tAO K (fLenA n fs) σ H Q) : tAO K fs σ H fun vs H1 => vs.length = n ∧ Q vs H1 := by
  obtain ⟨P, ρ, W, R, G, q, k⟩ := h
  refine ⟨P, ρ, W, _, G, q, fun vs H1 os ρ1 r1 h1 => ?_⟩
  obtain ⟨ws, W1, st, nd, sr, rp⟩ := id r1
  exact ⟨by rw [rp.length]; exact h1.1, k _ _ _ _ r1 h1.2⟩
def fCallK (S : FS) (np nk : Nat) (pm : List Pm) (fs fk : TAF) : TF := fCall S (pm.map fun _ => .v) [] (fPerm pm (fCat (fLenA np fs) (fLenA nk fk)))
theorem callK_core {K : PySem.W.Frag} {S : FS} {n np nk : Nat} {pm : List Pm} {ks : List Str} {E : XK} {σ : St} {H : Hp} {Q : VK} {gV : List V → List V → List V} (hgV : ∀ vs zs : List V, vs.length = np → zs.length = nk → gV vs zs = pmV (vs ++ zs) pm) (hn : pm.length = n)
    (h : tO K (fCallK S np nk pm fs fk) σ H Q) : tCallN np nk (spO K n S) gV E (tAO K fs) (tAO K fk) σ H Q := by
  have h1 := call_core (E := E) (ds := []) (dvs := []) (n := n) (fun _ => rfl) (by simpa using hn) h
  have h2 := lenA_core (cat_core (perm_core h1))
  refine tAO_mono h2 fun vs H1 ⟨l1, h3⟩ => tAO_mono (lenA_core h3) fun zs H2 ⟨l2, h4⟩ => ⟨l1, l2, ?_⟩
  rw [hgV vs zs l1 l2]
  simpa using h4
theorem vkcall {k j n np nk : Nat} {x : Str} {S : FS} {ks : List Str} {pm : List Pm} (cl : CalK X.prog X.w X.K X.mg X.base k n x S np ks pm) (hr : Room j X.A) (hk : k ≤ j) (hg : Gl X x) (hn : pm.length = n) (hnk : ks.length = nk) (ha : VA X (e :: es) fs) (hkw : VKw X kws fk)
    (hall : (backToKw pos (keywordEach kws X.env)).all (·.1.isSome) = true := by rfl) (hks : (backToKw pos (keywordEach kws X.env)).filterMap (·.1) = ks := by rfl)
    (hdb : (x == ("__debug__" : Str)) = false := by decide) (he : starEach (e :: es) X.env = (false, eval e X.env) :: starEach es X.env := by rfl)
    (hpl : ((backTo pos (starEach (e :: es) X.env)).any (·.1) || (backToKw pos (keywordEach kws X.env)).any (·.1.isNone)) = false := by rfl) : VE X (.Call (.Name x p) (e :: es) kws pos) (fCallK S np nk pm fs fk) := by
  subst hnk
  obtain ⟨fa, fd, ps, g, gV, F, hm, hk', hb, hgV⟩ := cl.ex
  exact (pe_callN F (hr.mono hk) hg hm hk' hb (pass0 (X := X)) ha hkw hall hks hdb he hpl).pwi fun σ H Q h => callK_core (ks := ks) hgV hn h
theorem vkcall0 {k j n np nk : Nat} {x : Str} {S : FS} {ks : List Str} {pm : List Pm} (cl : CalK X.prog X.w X.K X.mg X.base k n x S np ks pm) (hr : Room j X.A) (hk : k ≤ j) (hg : Gl X x) (hn : pm.length = n) (hnk : ks.length = nk) (hkw : VKw X kws fk)
    (hall : (backToKw pos (keywordEach kws X.env)).all (·.1.isSome) = true := by rfl) (hks : (backToKw pos (keywordEach kws X.env)).filterMap (·.1) = ks := by rfl)
    (hdb : (x == ("__debug__" : Str)) = false := by decide)
    (hpl : ((backTo pos (starEach [] X.env)).any (·.1) || (backToKw pos (keywordEach kws X.env)).any (·.1.isNone)) = false := by rfl) : VE X (.Call (.Name x p) [] kws pos) (fCallK S np nk pm fNil fk) := by
  subst hnk
  obtain ⟨fa, fd, ps, g, gV, F, hm, hk', hb, hgV⟩ := cl.ex
  refine (pe_callN0 F (hr.mono hk) hg hm hk' hb (pass0 (X := X)) hkw hall hks hdb hpl).pwi fun σ H Q h => ?_
  obtain ⟨P, ρ, W, R, G, q, kk⟩ := callK_core (E := E0) (ks := ks) hgV hn h
  exact kk [] _ [] _ ⟨[], W, Step.refl _ _, by simpa using G.nd, G.sr, ⟨rfl, rfl⟩⟩ q
/-- keywords of a def without defaults -/
theorem FnOk.calK {Pg : Program} {w : World} {K : PySem.W.Frag} {mg : Str → Option Value} {base : Heap} {k n np : Nat} {x : Str} {S : FS} {fa : Addr} {fd : FuncData} {ps ks : List Str} {pm : List Pm} {g : List Value → List Value → List Value} {gV : List V → List V → List V} (F : FnOk Pg w K mg base CX0 k fa fd ps (spO K n S)) (hm : mg x = some (.ref fa)) (hk : PySem.W.keepIn K (.ref fa) = true) (hb : KBn K fd ps np ks g gV)
    (h : ∀ vs zs : List V, vs.length = np → zs.length = ks.length → gV vs zs = pmV (vs ++ zs) pm) : CalK Pg w K mg base k n x S np ks pm := ⟨fa, fd, ps, g, gV, F, hm, hk, hb, h⟩
end

/-- keywords of a def without defaults: the values in the parameters' order -/
def pmG (us : List Value) : List Pm → List Value
  | [] => []
  | .a i :: r => us.getD i .none :: pmG us r
  | .d _ :: r => .none :: pmG us r
def onlyA (n : Nat) : List Pm → Bool
  | [] => true
  | .a i :: r => decide (i < n) && onlyA n r
  | .d _ :: _ => false
theorem pm_vals {vs : List V} {us : List Value} (h : Vals vs us) : ∀ {pm : List Pm}, onlyA vs.length pm = true → Vals (pmV vs pm) (pmG us pm)
  | [], _ => .nil
  | .a i :: r, e => by
    unfold onlyA at e
    rw [Bool.and_eq_true] at e
    have hi : i < vs.length := of_decide_eq_true e.1
    obtain ⟨u, hu, ru⟩ := h.get (List.getElem?_eq_getElem hi)
    refine .cons ?_ (pm_vals h e.2)
    rw [List.getD_eq_getElem?_getD, List.getD_eq_getElem?_getD, hu, List.getElem?_eq_getElem hi]
    exact ru
  | .d _ :: _, e => by cases e
def pmL (n : Nat) (xs : List V) (pm : List Pm) : List V := if xs.length = n then pmV xs pm else []
def pmLG (n : Nat) (xs : List Value) (pm : List Pm) : List Value := if xs.length = n then pmG xs pm else []
theorem kbn_mk {K : PySem.W.Frag} {fd : FuncData} {ps ks : List Str} {np : Nat} {pm : List Pm} (hd : onlyA (np + ks.length) pm = true) (h : ∀ us ws : List Value, us.length = np → ws.length = ks.length → bindArgs fd ⟨us, ks.zip ws⟩ = pure (ps.zip (pmG (us ++ ws) pm))) :
    KBn K fd ps np ks (fun us ws => pmLG (np + ks.length) (us ++ ws) pm) (fun vs zs => pmL (np + ks.length) (vs ++ zs) pm) where
  to := fun s us ws _ l1 l2 => .of_eq (by unfold pmLG; rw [if_pos (by rw [List.length_append, l1, l2])]; exact h us ws l1 l2)
  rel := fun {vs us zs ws} r1 r2 => by
    have r := Vals.app r1 r2
    unfold pmLG pmL
    by_cases z : (vs ++ zs).length = np + ks.length
    · rw [if_pos z, if_pos (by rw [← r.length]; exact z)]
      exact pm_vals r (by rw [z]; exact hd)
    · rw [if_neg z, if_neg (by rw [← r.length]; exact z)]
      exact .nil
theorem pmL_eq {n : Nat} {vs zs : List V} {np nk : Nat} {pm : List Pm} (hn : n = np + nk) (l1 : vs.length = np) (l2 : zs.length = nk) : pmL n (vs ++ zs) pm = pmV (vs ++ zs) pm := by
  unfold pmL
  rw [if_pos (by rw [List.length_append, l1, l2, hn])]
/-- a promise that asks the impossible -/
theorem fn_none {Pg : Program} {w : World} {K : PySem.W.Frag} {mg : Str → Option Value} {base : Heap} {k n : Nat} {fa : Addr} {fd : FuncData} {ps : List Str} {S : FS} (hS : ∀ ss R, ¬ S ss R) : FnOk Pg w K mg base CX0 k fa fd ps (spO K n S) := by
  refine ⟨?_, ?_⟩
  all_goals
    intros
    rename_i h
    first
      | (obtain ⟨_, _, _, _, _, _, z, _⟩ := h; exact (hS _ _ z).elim)

/-! ### sorted texts -/
def oSortS : OF := fun ts R => ∃ (t : T) (xs : List Str), ts = [t] ∧ seqOf t = some (xs.map .str) ∧ xs.length < 64 ∧ ∀ ys : List Str, ys.Perm xs → sortedS ys = true → R (.ls (ys.map .str))
theorem strs_rep {K : PySem.W.Frag} {H : Hp} : ∀ ys : List Str, RepDs K H (ys.map .str) (ys.map V.str)
  | [] => rfl
  | y :: ys => ⟨_, _, rfl, rfl, strs_rep ys⟩
theorem oc_sortS {K : PySem.W.Frag} : OpOk K oSortS (rSortedS K) := by
  rintro _ vs H Q R b ⟨t, xs, rfl, ht, hz, h⟩ k
  obtain ⟨v, _, e, h1⟩ := b1 b
  obtain ⟨p, us, e2, hs, hr⟩ := seqOf_rep ht h1
  have hr := rep_strs hr
  subst e2 hr
  refine ⟨p, xs, e, hs, hz, fun ys l hp hsrt hl => k _ _ (.ls (ys.map .str)) [l] (same_upd hl) (fun b hb => ?_) (by simp) ⟨l, _, rfl, upd_same, strs_rep ys, rfl⟩ (h ys hp hsrt)⟩
  have : b = l := by simpa using hb
  subst this; exact hl

/-! ### names = a tuple's items, owned ones too -/
section
variable {X : Cx} {fx : List Nat} {e : Expr} {es tgs : List Expr} {pos tp ep : Pos} {kt ke : Nat} {fs : TAF} {i : Nat} {is : List Nat}
def gsNames (is : List Nat) : TGs := fun vs σ H Q => vs.length = is.length ∧ Q (setV is vs σ) H
theorem pgn_nil : PGs X [] (gsNames []) := PGs.pwi pgs_nil fun vs σ H Q ⟨hl, q⟩ => by
  have : vs = [] := List.eq_nil_of_length_eq_zero hl
  subst this
  exact ⟨rfl, q⟩
theorem pgn_cons (h1 : PG X e (gName i)) (h2 : PGs X es (gsNames is)) (hs : (assignEach (e :: es) X.env).map (·.2) = assign e X.env :: (assignEach es X.env).map (·.2) := by rfl) : PGs X (e :: es) (gsNames (i :: is)) :=
  PGs.pwi (pgs_cons h1 h2 hs) fun vs σ H Q ⟨hl, q⟩ => by
    cases vs with
    | nil => simp at hl
    | cons v vs => exact ⟨v, vs, rfl, by simpa using hl, q⟩
def sTupN (is : List Nat) (fs : TAF) : SF := fun E ρ => fs ρ fun os ρ1 => match valsO os with
  | some ts => (ts.length = is.length ∧ ts.length ≤ sizeLine) ∧ E.nx (setO is ts ρ1)
  | none => False
theorem vs_tupN {n m : Nat} (hm : X.N.length = m) (hc : X.calm = true) (ha : VA X es fs) (hg : PGs X tgs (gsNames is)) (hl : is.length = n) (hi : ∀ i ∈ is, i < m) (hf : ∀ i ∈ is, i ∉ fx)
    (hn : (assignEach tgs X.env).length = n := by rfl) (hst : (assignEach tgs X.env).findIdx? (·.1) = none := by rfl)
    (hs : swapsWithSole [.Tuple tgs kt tp] (.Tuple es ke ep) pos.line X.env = pure false := by rfl) (hw : swappedStores [.Tuple tgs kt tp] (.Tuple es ke ep) X.env = pure none := by rfl)
    (h1 : (assignEach [.Tuple tgs kt tp] X.env).map (·.2) = [assign (.Tuple tgs kt tp) X.env] := by rfl) : VS X fx (.Assign [.Tuple tgs kt tp] (.Tuple es ke ep) pos) (sTupN is fs) :=
  PS.pwI (ps_asg (pe_tup ha) (pg_tup hc hg hn hst) hs hw h1) fun pins s D σ H I ⟨P, ρ, W, E, G, q, k1, k2, k3, k4, k5⟩ => ⟨P, ρ, W, _, G, q, fun vs H1 os ρ1 r1 h1 => by
    obtain ⟨ws, W1, G1, st, nd, rp⟩ := r1.good G
    split at h1
    · rename_i ts ht
      have hlv : vs.length = ts.length := by rw [rp.length, vals_len ht]
      refine ⟨by rw [hlv]; exact h1.1.2, fun p hp => ⟨p, vs, rfl, .inl (.inl upd_same), by rw [hlv, h1.1.1, hl], by rw [hlv, h1.1.1], ?_⟩⟩
      have sm : Same H1 (upd H1 p (.tup vs)) := same_upd hp
      have rt := RepTs.keep (Kept.same sm) (vals_ts ht rp) (by simp)
      have sr1 : SR X.K P (upd H1 p (.tup vs)) ρ1 σ W1 := G1.sr.after (W0 := []) (fun b o h _ => sm b o h) (by simp) (by simp) (by simp)
      obtain ⟨W2, sr2, m2, n2⟩ := sr1.puts (is := is) nd rt h1.1.1.symm (fun k hk => by rw [← sr1.len, I.len, hm]; exact hi k hk)
      have ap := G.apart st
      refine k1 _ _ _ ⟨W2, ⟨fun b o hb hn => sm b o (st.keep b o hb hn), fun b hb => st.new b (m2 b hb)⟩, ⟨sr2, n2, fun b hb => ⟨fun z => (ap b hb).1 (m2 b z), let ⟨o, e⟩ := (ap b hb).2; ⟨o, sm _ _ e⟩⟩⟩, Fx.sets is vs σ .refl hf⟩ h1.2
    · exact h1.elim⟩
end

/-! ### a great divisor -/
def oDivW : OF := fun ts R => match ts with
  | [.d (.int i), .d (.int j)] => CDivW i j ∧ R (.d (.int (i / j)))
  | _ => False
theorem ve_divW {X : Cx} {a b : Expr} {pos : Pos} {fa fb : TF} (ha : VE X a fa) (hb : VE X b fb) : VE X (.BinOp a .FloorDiv b pos) (fOp oDivW (fCons fa (fCons fb fNil))) :=
  ve_bin op_fdivW (ok_i2 _ _ (fun i j => .int (i / j)) (m2 CDivW _ rfl) (fun i j H Q c q => ⟨i, j, rfl, rfl, c, q⟩) fun _ _ _ => rfl) ha hb
end PW
end PwQ
section PwAny
set_option maxRecDepth 100000
/-! PwAny: walks over data of which it shows only then whether it is a list or a tuple. -/
namespace PW
open PySem PySem.Spec L2
open PyProof.Rows hiding St
section
variable {X : Cx} {tg it : Expr} {f : TF}
def iAnyV (K : PySem.W.Frag) (tl : TE) : TI := fun σ H R => tl σ H fun x H1 => ∃ a, x = .ref a ∧ (((∃ xs, SqL K H1 a xs) ∧ R (Itl K a) H1) ∨ ((∃ xs, SqT K H1 a xs) ∧ R (Itt K a) H1))
theorem pi_any {l : Expr} {tl : TE} (hl : PE X l tl) : PI X tg l (iAnyV X.K tl) := by
  refine ⟨fun pins s σ H R I h => thn (hl.run pins s σ H _ I h) fun v s1 ⟨x, H1, I1, r1, a, e, q⟩ => ?_⟩
  subst e
  have ev : v = Value.ref a := r1
  subst ev
  have fresh : ∀ b ∈ [s1.heap.objs.size], b = s1.heap.objs.size := fun b hb => by simpa using hb
  rcases q with ⟨⟨xs, hq⟩, q⟩ | ⟨⟨xs, hq⟩, q⟩
  · obtain ⟨its, rv, p, hz⟩ := I1.list hq
    exact wpAny_pyIter_list p.isList ⟨_, [_], _, _, H1, rfl, I1.kept (t' := s1.toks) fun b o e => Heap.get?_push_of_some _ e, turn_list a _, ⟨_, Heap.get?_push_size _ rfl, rfl, rfl⟩, fun b hb => by
      rw [fresh b hb]; exact I1.fpOk (Nat.le_refl _) (I1.hok.fresh (Nat.le_refl _)), q⟩
  · obtain ⟨its, rv, p, hz⟩ := I1.tuple hq
    exact wpAny_pyIter_tuple (show s1.heap.IsTuple a its.toArray from p) ⟨_, [_], _, _, H1, rfl, I1.kept (t' := s1.toks) fun b o e => Heap.get?_push_of_some _ e, turn_tuple a _, ⟨_, Heap.get?_push_size _ rfl, rfl, rfl⟩, fun b hb => by
      rw [fresh b hb]; exact I1.fpOk (Nat.le_refl _) (I1.hok.fresh (Nat.le_refl _)), q⟩
/-- a list or a tuple -/
def iAny (f : TF) : IF := fun ρ R => f ρ fun o ρ1 => match o with
  | .val t => match itsOf t with
    | some xs => R xs ρ1
    | none => False
  | _ => False
theorem vi_any (he : VE X it f) : VI X tg it (iAny f) := (pi_any he).pwi fun σ H R ⟨P, ρ, W, Rq, G, q, k⟩ => ⟨P, ρ, W, _, G, q, fun v H1 o ρ1 r1 h1 => by
  obtain ⟨ws, W1, G1, st, nd, rp⟩ := r1.good G
  split at h1
  · rename_i t
    split at h1
    · rename_i xs hx
      unfold itsOf at hx
      split at hx
      all_goals first
        | cases hx
        | skip
      · obtain ⟨a, vs, e, ha, hr, ew⟩ := rp
        subst e ew
        have na : a ∉ W1 := nd_apart nd a (by simp)
        exact ⟨a, rfl, .inl ⟨⟨vs, SqL.of ha⟩, k _ _ _ ρ1 ⟨W1, st.drop, G1, yld_list (.inl ⟨ha, na⟩) hr G1.mut⟩ h1⟩⟩
      · obtain ⟨⟨a, vs, e, hs, hr⟩, ew⟩ := rp
        subst e ew
        exact ⟨a, rfl, .inl ⟨⟨vs, hs.l⟩, k _ _ _ ρ1 ⟨W1, st.drop, G1, yld_list (.inr hs) hr G1.mut⟩ h1⟩⟩
      · obtain ⟨⟨a, vs, e, hs, hr⟩, ew⟩ := rp
        subst e ew
        exact ⟨a, rfl, .inr ⟨⟨vs, hs⟩, k _ _ _ ρ1 ⟨W1, st.drop, G1, yld_tup hs hr G1.mut⟩ h1⟩⟩
    · exact h1.elim
  · exact h1.elim⟩
end
/-- a number of the module -/
theorem gl_int {X : Cx} {x : Str} {i : Int} (h : ∃ t, X.mg x = some (.int i t)) : ∃ (v : V) (u : Value), X.mg x = some u ∧ RelV v u ∧ ∀ H, RepD X.K H (.int i) v := by
  obtain ⟨t, e⟩ := h
  exact ⟨.int i, _, e, ⟨t, rfl⟩, fun _ => rfl⟩
end PW
end PwAny
section HmA
set_option maxRecDepth 100000
/-! HmA: houses, standings, as the laws of the sack (k09 to k28) and the program's functions of beats have them: promises. -/
namespace PW
open PySem L2
open PyProof.Rows hiding St
/-! ### the model -/
structure Bel where
  pl : Int
  sd : Str
  to : List Str
structure Wkr where
  nm : Str
  lg : Int
  bl : List Bel
abbrev Stg := List (Int × Int)
def strsD (ns : List Str) : D := .tuple (ns.map .str)
def Bel.d (b : Bel) : D := .tuple [.int b.pl, .str b.sd, strsD b.to]
def Wkr.d (w : Wkr) : D := .tuple [.str w.nm, .int w.lg, .tuple (w.bl.map Bel.d)]
def houD (h : List Wkr) : D := .tuple (h.map Wkr.d)
def posD (p : Int × Int) : D := .tuple [.int p.1, .int p.2]
def stD (s : Stg) : D := .tuple (s.map posD)
def names (h : List Wkr) : List Str := h.map Wkr.nm
def bellsAt (w : Wkr) (pl : Int) : List Bel := w.bl.filter fun b => decide (b.pl = pl)
def here : List Wkr → Stg → List Bel
  | w :: h, p :: s => bellsAt w p.1 ++ here h s
  | _, _ => []
def oddly (h : List Wkr) (s : Stg) : List Str := (names h).filter fun n => decide (((here h s).flatMap Bel.to).count n % 2 = 1)
def turnd (ns : List Str) : List Wkr → Stg → Stg
  | w :: h, p :: s => (p.1, if w.nm ∈ ns then -p.2 else p.2) :: turnd ns h s
  | _, _ => []
def rungM (h : List Wkr) (s : Stg) : Stg := turnd (oddly h s) h s
def mirM (h : List Wkr) (s : Stg) : Stg := turnd (names h) h (rungM h s)
def steppd : List Wkr → Stg → Stg
  | w :: h, p :: s => ((p.1 + p.2) % w.lg, p.2) :: steppd h s
  | _, _ => []
def beatM (h : List Wkr) (s : Stg) : Stg := rungM h (steppd h s)
/-- a house as it may be -/
structure OkH (h : List Wkr) : Prop where
  few : h.length ≤ 5
  nd : (names h).Nodup
  lg : ∀ w ∈ h, 1 ≤ w.lg ∧ w.lg ≤ 60
  bl : ∀ w ∈ h, w.bl.length ≤ 64
  one : ∀ w ∈ h, (w.bl.map Bel.pl).Nodup
  so : ∀ w ∈ h, ∀ b ∈ w.bl, PyData.strOk b.sd = true
  to : ∀ w ∈ h, ∀ b ∈ w.bl, b.to.length ≤ 5 ∧ b.to.Nodup ∧ ∀ n ∈ b.to, n ∈ names h
  no : ∀ z ∈ names h, PyData.strOk z = true
/-- a standing of a house -/
def OkS : List Wkr → Stg → Prop
  | [], [] => True
  | w :: h, p :: s => 0 ≤ p.1 ∧ p.1 < w.lg ∧ (p.2 = 1 ∨ p.2 = -1) ∧ OkS h s
  | _, _ => False
/-! ### the program's functions -/
def S_names_of : FS := fun ss R => ∃ h, ss = [.own (.d (houD h))] ∧ h.length ≤ 64 ∧ ∀ fin, R (.d (strsD (names h))) fin
def S_turned : FS := fun ss R => ∃ h s u ns, ss = [.own (.d (houD h)), .own (.d (stD s)), .own (.d u)] ∧ itsOf (.d u) = some (ns.map .str) ∧ h.length ≤ 64 ∧ s.length = h.length ∧ (∀ n ∈ ns, n ∈ names h) ∧ ∀ fin, R (.d (stD (turnd ns h s))) fin
def S_bells_here : FS := fun ss R => ∃ h s, ss = [.own (.d (houD h)), .own (.d (stD s))] ∧ OkH h ∧ s.length = h.length ∧ ∀ fin, R (.ls ((here h s).map Bel.d)) fin
def S_told_oddly : FS := fun ss R => ∃ h s, ss = [.own (.d (houD h)), .own (.d (stD s))] ∧ OkH h ∧ s.length = h.length ∧ ∀ fin, R (.d (strsD (oddly h s))) fin
def S_rung : FS := fun ss R => ∃ h s, ss = [.own (.d (houD h)), .own (.d (stD s))] ∧ OkH h ∧ s.length = h.length ∧ ∀ fin, R (.d (stD (rungM h s))) fin
def S_stepped : FS := fun ss R => ∃ h s, ss = [.own (.d (houD h)), .own (.d (stD s))] ∧ OkH h ∧ s.length = h.length ∧ ∀ fin, R (.d (stD (steppd h s))) fin
def S_mirrored : FS := fun ss R => ∃ h s, ss = [.own (.d (houD h)), .own (.d (stD s))] ∧ OkH h ∧ s.length = h.length ∧ ∀ fin, R (.d (stD (mirM h s))) fin
/-- the sounds, sorted: whichever row is told, it is such a row -/
def soundsOf (bs : List Bel) : List Str := (bs.map Bel.sd).filter fun z => decide (z ≠ "")
def S_heard : FS := fun ss R => ∃ h s, ss = [.own (.d (houD h)), .own (.d (stD s))] ∧ OkH h ∧ s.length = h.length ∧ ∀ ys fin, ys.Perm (soundsOf (here h s)) → sortedS ys = true → R (.d (strsD ys)) fin
/-! ### the sack -/
def sackK (g : List Int) (n s t : Int) : List (Key × T) := [(.inr "great", .ls (g.map .int)), (.inr "now", .d (.int n)), (.inr "seed", .d (.int s)), (.inr "turn", .d (.int t))]
def sackT (g : List Int) (n s t : Int) : T := .dk (sackK g n s t)
section
variable {g : List Int} {n s t x : Int}
theorem lk_great : lookK (sackK g n s t) (.inr "great") = some (.ls (g.map .int)) := rfl
theorem lk_now : lookK (sackK g n s t) (.inr "now") = some (.d (.int n)) := rfl
theorem lk_seed : lookK (sackK g n s t) (.inr "seed") = some (.d (.int s)) := rfl
theorem lk_turn : lookK (sackK g n s t) (.inr "turn") = some (.d (.int t)) := rfl
theorem pt_now : putD (sackK g n s t) (.inr "now") (.int x) = sackK g x s t := rfl
theorem pt_seed : putD (sackK g n s t) (.inr "seed") (.int x) = sackK g n x t := rfl
theorem pt_turn : putD (sackK g n s t) (.inr "turn") (.int x) = sackK g n s x := rfl
theorem rp_great {g' : List Int} : repK (sackK g n s t) (.inr "great") (.ls (g'.map .int)) = sackK g' n s t := rfl
theorem sack_len : (sackK g n s t).length = 4 := rfl
end
def S_law_sack : FS := fun ss R => ∃ (ns : List Int) (k : Int), ss = [.own (.d (.list (ns.map .int))), .own (.d (.int k))] ∧ ns.length ≤ 63 ∧ 0 ≤ k ∧ k ≤ 40 ∧ ∀ g n s t fin, R (sackT g n s t) fin
def S_law_take : FS := fun ss R => ∃ (g : List Int) (n s t m : Int), ss = [.own (sackT g n s t), .own (.d (.int m))] ∧ 0 < m ∧ m < 1073741824 ∧ ∀ r g' n' s' t' f, 0 ≤ r → r < m → R (.d (.int r)) [.own (sackT g' n' s' t'), f]
def S_law_mixed : FS := fun ss R => ∃ (g : List Int) (n s t : Int) (u : T) (xs : List D), ss = [.own (sackT g n s t), .own u] ∧ itsOf u = some xs ∧ xs.length ≤ 1000 ∧ ∀ ys g' n' s' t' f, ys.Perm xs → R (.ls ys) [.own (sackT g' n' s' t'), f]
def S_law_names : FS := fun ss R => ∃ (g : List Int) (n s t m : Int), ss = [.own (sackT g n s t), .own (.d (.int m))] ∧ 1 ≤ m ∧ m ≤ 26 ∧ ∀ (ns : List Str) g' n' s' t' f, ns.length = m.toNat → ns.Nodup → (∀ z ∈ ns, PyData.strOk z = true ∧ z.length ≤ 10) → R (.ls (ns.map .str)) [.own (sackT g' n' s' t'), f]
def S_law_home : FS := fun ss R => ∃ (g : List Int) (n s t w : Int) (ns : List Str), ss = [.own (sackT g n s t), .own (.d (.list (ns.map .str))), .own (.d (.int w)), .own (.d (.int (10 ^ 12)))] ∧ ns.length ≤ 5 ∧ ns ≠ [] ∧ ns.Nodup ∧ (∀ z ∈ ns, PyData.strOk z = true) ∧ 1 ≤ w ∧ w ≤ 60 ∧ ∀ h g' n' s' t' f1 f2 f3, OkH h → names h = ns → R (.d (houD h)) [.own (sackT g' n' s' t'), f1, f2, f3]
def S_law_some_home : FS := fun ss R => ∃ (g : List Int) (n s t : Int), ss = [.own (sackT g n s t)] ∧ ∀ h g' n' s' t', OkH h → (h ≠ [] ∧ ∀ z ∈ names h, z.length ≤ 10) → R (.d (houD h)) [.own (sackT g' n' s' t')]
def S_law_stand : FS := fun ss R => ∃ (g : List Int) (n s t : Int) (h : List Wkr), ss = [.own (sackT g n s t), .own (.d (houD h))] ∧ OkH h ∧ ∀ st g' n' s' t' f, OkS h st → R (.d (stD st)) [.own (sackT g' n' s' t'), f]
def S_law_called : FS := fun ss R => ∃ h, ss = [.own (.d (houD h))] ∧ h.length ≤ 64 ∧ ∀ fin, R (.ls ((names h).map .str)) fin
def S_law_flip : FS := fun ss R => ∃ h s u ns, ss = [.own (.d (houD h)), .own (.d (stD s)), .own u] ∧ itsOf u = some (ns.map .str) ∧ h.length ≤ 64 ∧ s.length = h.length ∧ ∀ fin, R (.d (stD (turnd ns h s))) fin
def hereD (b : Bel) : D := .tuple [.str b.sd, strsD b.to]
def S_law_here : FS := fun ss R => ∃ h s, ss = [.own (.d (houD h)), .own (.d (stD s))] ∧ OkH h ∧ s.length = h.length ∧ ∀ fin, R (.ls ((here h s).map hereD)) fin
def rungL (h : List Wkr) : List Bel → Stg → Stg
  | [], s => s
  | b :: bs, s => rungL h bs (turnd b.to h s)
def S_law_rung : FS := fun ss R => ∃ h s, ss = [.own (.d (houD h)), .own (.d (stD s))] ∧ OkH h ∧ s.length = h.length ∧ ∀ fin, R (.d (stD (rungL h (here h s) s))) fin
def S_law_mirror : FS := fun ss R => ∃ h s, ss = [.own (.d (houD h)), .own (.d (stD s))] ∧ OkH h ∧ s.length = h.length ∧ ∀ fin, R (.d (stD (turnd (names h) h (rungL h (here h s) s)))) fin
/-- data whose likeness with itself is found within d steps down -/
def Alk : Nat → D → Prop
  | 0, _ => False
  | _ + 1, .int _ => True
  | _ + 1, .bool _ => True
  | _ + 1, .str _ => True
  | d + 1, .tuple xs => xs.length ≤ sizeLine ∧ ∀ x ∈ xs, Alk d x
  | d + 1, .list xs => xs.length ≤ sizeLine ∧ ∀ x ∈ xs, Alk d x
  | _ + 1, _ => False
def S_law_alike (d : Nat) : FS := fun ss R => ∃ x, ss = [.own (.d x), .own (.d x)] ∧ Alk d x ∧ ∀ fin, R (.d (.bool true)) fin
theorem S_law_alike_0 : ∀ ss R, ¬ S_law_alike 0 ss R := fun _ _ ⟨_, _, h, _⟩ => h
/-! ### sorted rows -/
def leS (x y : Str) : Prop := x.cps.toList ≤ y.cps.toList
theorem rising_pw : ∀ (l : List Str) (p : Str), risingS p l = true → (∀ x ∈ l, leS p x) ∧ l.Pairwise leS
  | [], _, _ => ⟨by simp, .nil⟩
  | x :: l, p, h => by
    unfold risingS at h
    rw [Bool.and_eq_true] at h
    obtain ⟨h1, h2⟩ := h
    rw [ltCps_eq] at h1
    have h1 : leS p x := by
      unfold leS
      have : ¬ x.cps.toList < p.cps.toList := by simpa using h1
      exact List.not_lt.mp this
    obtain ⟨a, b⟩ := rising_pw l x h2
    refine ⟨fun y hy => ?_, .cons a b⟩
    rcases List.mem_cons.mp hy with rfl | hy
    · exact h1
    · exact List.le_trans h1 (a y hy)
theorem sorted_pw : ∀ (l : List Str), sortedS l = true → l.Pairwise leS
  | [], _ => .nil
  | x :: l, h => let ⟨a, b⟩ := rising_pw l x h; .cons a b
theorem leS_anti {x y : Str} (h : leS x y) (g : leS y x) : x = y := by
  have e : x.cps.toList = y.cps.toList := List.le_antisymm h g
  have e2 : x.cps = y.cps := Array.toList_inj.mp e
  cases x; cases y; cases e2; rfl
theorem sorted_eq {xs ys zs : List Str} (h1 : ys.Perm xs) (h2 : zs.Perm xs) (s1 : sortedS ys = true) (s2 : sortedS zs = true) : ys = zs :=
  List.Perm.eq_of_pairwise (fun a b _ _ h g => leS_anti h g) (sorted_pw _ s1) (sorted_pw _ s2) (h1.trans h2.symm)
/-! ### names of the sack -/
/-- names as lists of signs -/
def nmL (A B : List Nat) (c : Nat → Nat) (k : Nat) : List Nat := if k % 2 = 0 then A ++ [c k] ++ B else A ++ [c (k - 1)] ++ B ++ [c k]
theorem nmL_inj {A B : List Nat} {c : Nat → Nat} {n : Nat} (hc : ∀ i j, i < n → j < n → c i = c j → i = j) {i j : Nat} (hi : i < n) (hj : j < n) (h : nmL A B c i = nmL A B c j) : i = j := by
  unfold nmL at h
  by_cases ei : i % 2 = 0 <;> by_cases ej : j % 2 = 0
  · rw [if_pos ei, if_pos ej] at h
    have h := List.append_cancel_right h
    have h := List.append_cancel_left h
    exact hc i j hi hj (by simpa using h)
  · rw [if_pos ei, if_neg ej] at h
    have := congrArg List.length h
    simp at this
  · rw [if_neg ei, if_pos ej] at h
    have := congrArg List.length h
    simp at this
  · rw [if_neg ei, if_neg ej] at h
    have := List.append_inj_right' h rfl
    exact hc i j hi hj (by simpa using this)
end PW
end HmA
section HmT
set_option maxRecDepth 100000
/-! printed by gen.py: transformers that laws share, from k14 -/
namespace PW
open PySem L2
open PyProof.Rows hiding St

def tf_law_sack_1 : SF := bCons (sAsg (fOp oMod (fCons (fOp oAdd (fCons (fOp oAdd (fCons (fOp oMul (fCons (fVar 2) (fCons (fCst (.int 48271)) fNil))) (fCons (fOp oMod (fCons (fOp oAbs (fCons (fVar 3) (fNil))) (fCons (fCst (.int 2147483629)) fNil))) fNil))) (fCons (fCst (.int 11)) fNil))) (fCons (fCst (.int 2147483647)) fNil))) (gNm 2)) (bNil)

def tf_law_sack_2 : SF := bCons (sRet (fDk [.inr "great", .inr "now", .inr "seed", .inr "turn"] (fCons (fOp oRev (fCons (fBor 4) fNil)) (fCons (fCst (.int 0)) (fCons (fOp oAdd (fCons (fVar 2) (fCons (fCst (.int 1)) fNil))) (fCons (fCst (.int 0)) (fNil))))))) (bNil)

def tf_law_sack_3 : SF := bCons (sAsg (fLc [3] (iLst (fOp oS11 (fCons (fVar 0) (fCons (fAsI (fVar 1)) (fCons (fAsI (fCst (.int 40))) fNil))))) (gNm 3) (fTest (fOp oGe (fCons (fVar 3) (fCons (fOp oPow (fCons (fCst (.int 10)) (fCons (fCst (.int 18)) fNil))) fNil)))) (fVar 3)) (gNm 4)) (tf_law_sack_2)

def tf_law_sack_4 : SF := bCons (sFor (iLst (fOp oS01 (fCons (fVar 0) (fCons (fCst (.int 40)) fNil)))) (gNm 3) (tf_law_sack_1)) (tf_law_sack_3)

/-- ['_law_script', '_law_base', '_law_seed', '_law_cell', '_law_great'] mut [] -/
def tf_law_sack : SF := bCons (sAsg (fOp oAdd (fCons (fCst (.int 7919)) (fCons (fOp oMul (fCons (fCst (.int 131)) (fCons (fVar 1) fNil))) fNil))) (gNm 2)) (tf_law_sack_4)

def tf_law_take_1 : SF := bCons (sSetK 0 "now" (fOp oDiv (fCons (fGetK 0 "now") (fCons (fVar 1) fNil)))) (bCons (sRet (fVar 3)) (bNil))

def tf_law_take_2 : SF := bCons (sRet (fOp oMod (fCons (fOp oDiv (fCons (fOp oAdd (fCons (fOp oMul (fCons (fVar 2) (fCons (fCst (.int 30269)) fNil))) (fCons (fGetK 0 "seed") fNil))) (fCons (fCst (.int 4099)) fNil))) (fCons (fVar 1) fNil)))) (bNil)

def tf_law_take_3 : SF := bCons (sSetK 0 "seed" (fOp oAdd (fCons (fOp oMod (fCons (fOp oAdd (fCons (fVar 2) (fCons (fOp oMul (fCons (fCst (.int 3)) (fCons (fGetK 0 "seed") fNil))) fNil))) (fCons (fCst (.int 2147483629)) fNil))) (fCons (fCst (.int 1)) fNil)))) (tf_law_take_2)

def tf_law_take_4 : SF := bCons (sAsg (fOp oMod (fCons (fOp oMul (fCons (fOp oMod (fCons (fOp oAdd (fCons (fGetK 0 "seed") (fCons (fOp oMul (fCons (fCst (.int 69621)) (fCons (fGetK 0 "turn") fNil))) fNil))) (fCons (fCst (.int 2147483647)) fNil))) (fCons (fCst (.int 16807)) fNil))) (fCons (fCst (.int 2147483647)) fNil))) (gNm 2)) (tf_law_take_3)

def tf_law_take_5 : SF := bCons (sSetK 0 "turn" (fOp oAdd (fCons (fGetK 0 "turn") (fCons (fCst (.int 1)) fNil)))) (tf_law_take_4)

def tf_law_take_6 : SF := bCons (sIf (fTest (fOp oGt (fCons (fGetK 0 "now") (fCons (fCst (.int 0)) fNil)))) (bCons (sAsg (fOp oMod (fCons (fGetK 0 "now") (fCons (fVar 1) fNil))) (gNm 3)) (tf_law_take_1)) (bNil)) (tf_law_take_5)

/-- ['_law_sack_here', '_law_many', '_law_one', '_law_digit'] mut [0] -/
def tf_law_take : SF := bCons (sIf (fAnd (fTest (fOp oEqS (fCons (fGetK 0 "now") (fCons (fCst (.int 0)) fNil)))) (fTest (fNeK 0 "great"))) (bCons (sSetK 0 "now" (fPopK 0 "great")) (bNil)) (bNil)) (tf_law_take_6)

def tf_law_mixed_1 : SF := bCons (sDrop (fMut 4 mApp (fCons (fMut 3 mPopAt (fCons (fCall S_law_take [.l, .v] [] (fCons (fBor 0) (fCons (fOp oLen (fCons (fBor 3) (fNil))) (fNil)))) (fNil))) (fNil)))) (bKill [2] (bNil))

def tf_law_mixed_2 : SF := bKill [2] (bCons (sFor (iRg1 (fCons (fOp oLen (fCons (fBor 3) (fNil))) (fNil))) (gNm 2) (tf_law_mixed_1)) (bCons (sRet (fMv 4)) (bNil)))

/-- ['_law_sack_here', '_law_some', '_law_turn', '_law_left', '_law_found'] mut [0] -/
def tf_law_mixed : SF := bCons (sPar 3 4 (fCons (fOp oLstOf (fCons (fBor 1) (fNil))) (fCons (fOp oLst (fNil)) (fNil)))) (tf_law_mixed_2)

def tf_law_names_1 : SF := bCons (sDrop (fMut 6 mApp (fCons (fOp oIx (fCons (fOp oLst (fCons (fOp oCatS (fCons (fOp oCatS (fCons (fOp oS01 (fCons (fVar 2) (fCons (fVar 7) fNil))) (fCons (fVar 9) fNil))) (fCons (fOp oS10 (fCons (fVar 2) (fCons (fVar 7) fNil))) fNil))) (fCons (fOp oCatS (fCons (fOp oIx (fCons (fOp oCatL (fCons (fBor 6) (fCons (fOp oLst (fCons (fCst (.str "")) (fNil))) fNil))) (fCons (fOp oSub (fCons (fVar 3) (fCons (fCst (.int 1)) fNil))) fNil))) (fCons (fVar 9) fNil))) (fNil)))) (fCons (fOp oMod (fCons (fVar 3) (fCons (fCst (.int 2)) fNil))) fNil))) (fNil)))) (bKill [3, 9] (bNil))

def tf_law_names_2 : SF := bCons (sAsg (fOp oIx (fCons (fVar 5) (fCons (fOp oMod (fCons (fOp oAdd (fCons (fVar 8) (fCons (fOp oMul (fCons (fCst (.int 7)) (fCons (fVar 3) fNil))) fNil))) (fCons (fCst (.int 26)) fNil))) fNil))) (gNm 9)) (tf_law_names_1)

def tf_law_names_3 : SF := bCons (sRet (fCall S_law_mixed [.l, .v] [] (fCons (fBor 0) (fCons (fFrz 6) (fNil))))) (bNil)

def tf_law_names_4 : SF := bCons (sIf (fAnd (fTest (fOp oEqS (fCons (fCall S_law_take [.l, .v] [] (fCons (fBor 0) (fCons (fCst (.int 3)) (fNil)))) (fCons (fCst (.int 0)) fNil)))) (fTest (fOp oNotInD (fCons (fVar 4) (fCons (fBor 6) fNil))))) (bCons (sSubL 6 (fCall S_law_take [.l, .v] [] (fCons (fBor 0) (fCons (fVar 1) (fNil)))) (fVar 4)) (bNil)) (bNil)) (tf_law_names_3)

def tf_law_names_5 : SF := bCons (sAsg (fOp oIx (fCons (fOp oLst (fCons (fCst (.str "walker")) (fCons (fCst (.str "bell")) (fCons (fCst (.str "beats")) (fCons (fCst (.str "turn")) (fCons (fCst (.str "ring")) (fCons (fCst (.str "undo")) (fNil)))))))) (fCons (fCall S_law_take [.l, .v] [] (fCons (fBor 0) (fCons (fCst (.int 6)) (fNil)))) fNil))) (gNm 4)) (tf_law_names_4)

def tf_law_names_6 : SF := bKill [3, 9] (bCons (sFor (iRg1 (fCons (fVar 1) (fNil))) (gNm 3) (tf_law_names_2)) (tf_law_names_5))

def tf_law_names_7 : SF := bCons (sPar 7 8 (fCons (fCall S_law_take [.l, .v] [] (fCons (fBor 0) (fCons (fOp oAdd (fCons (fOp oLen (fCons (fVar 2) (fNil))) (fCons (fCst (.int 1)) fNil))) (fNil)))) (fCons (fCall S_law_take [.l, .v] [] (fCons (fBor 0) (fCons (fCst (.int 26)) (fNil)))) (fNil)))) (tf_law_names_6)

def tf_law_names_8 : SF := bCons (sAsg (fStr1 oJoin (fCst (.str "")) (fLc [3] (iRg1 (fCons (fCall S_law_take [.l, .v] [] (fCons (fBor 0) (fCons (fCst (.int 5)) (fNil)))) (fNil))) (gNm 3) (tYesF) (fOp oIx (fCons (fVar 5) (fCons (fCall S_law_take [.l, .v] [] (fCons (fBor 0) (fCons (fCst (.int 26)) (fNil)))) fNil))))) (gNm 2)) (tf_law_names_7)

/-- ['_law_sack_here', '_law_many', '_law_stem', '_law_k', '_law_word', '_law_letters', '_law_found', '_law_at', '_law_first', '_law_letter'] mut [0] -/
def tf_law_names : SF := bCons (sTupN [5, 6] (fCons (fCst (.str "abcdefghijklmnopqrstuvwxyz")) (fCons (fOp oLst (fNil)) (fNil)))) (tf_law_names_8)

def tf_law_home_1 : SF := bCons (sAsg (fOp oMul (fCons (fCst (.int 2)) (fCons (fVar 10) fNil))) (gNm 10)) (bNil)

def tf_law_home_2 : SF := bCons (sDrop (fMut 14 mApp (fCons (fOp oTup (fCons (fVar 12) (fCons (fOp oIx (fCons (fBor 4) (fCons (fCall S_law_take [.l, .v] [] (fCons (fBor 0) (fCons (fOp oLen (fCons (fBor 4) (fNil))) (fNil)))) fNil))) (fCons (fVar 15) (fNil))))) (fNil)))) (bNil)

def tf_law_home_3 : SF := bCons (sIf (fTest (fOp oEqS (fCons (fCall S_law_take [.l, .v] [] (fCons (fBor 0) (fCons (fVar 7) (fNil)))) (fCons (fCst (.int 0)) fNil)))) (bCons (sAsg (fOp oTupOf (fCons (fLc [11] (iLst (fVar 1)) (gNm 11) (fTest (fOp oEqS (fCons (fCall S_law_take [.l, .v] [] (fCons (fBor 0) (fCons (fCst (.int 2)) (fNil)))) (fCons (fCst (.int 0)) fNil)))) (fVar 11)) (fNil))) (gNm 15)) (tf_law_home_2)) (bNil)) (bKill [12] (bNil))

def tf_law_home_4 : SF := bCons (sAsg (fOp oMul (fCons (fOp oMul (fCons (fVar 6) (fCons (fCst (.int 2)) fNil))) (fCons (fVar 13) fNil))) (gNm 6)) (bKill [8, 9, 10, 11, 12, 13, 14] (bNil))

def tf_law_home_5 : SF := bCons (sDrop (fMut 5 mApp (fCons (fOp oTup (fCons (fVar 9) (fCons (fVar 13) (fCons (fOp oTupOf (fCons (fBor 14) (fNil))) (fNil))))) (fNil)))) (tf_law_home_4)

def tf_law_home_6 : SF := bKill [12] (bCons (sFor (iRg1 (fCons (fVar 13) (fNil))) (gNm 12) (tf_law_home_3)) (tf_law_home_5))

def tf_law_home_7 : SF := bCons (sPar 13 14 (fCons (fOp oAdd (fCons (fCst (.int 1)) (fCons (fCall S_law_take [.l, .v] [] (fCons (fBor 0) (fCons (fOp oMax2 (fCons (fCst (.int 1)) (fCons (fOp oMin2 (fCons (fVar 2) (fCons (fOp oDivW (fCons (fVar 3) (fCons (fVar 10) fNil))) (fNil)))) (fNil)))) (fNil)))) fNil))) (fCons (fOp oLst (fNil)) (fNil)))) (tf_law_home_6)

def tf_law_home_8 : SF := bCons (sFor (iLst (fOp oS10 (fCons (fVar 1) (fCons (fVar 8) fNil)))) (gNm 11) (tf_law_home_1)) (tf_law_home_7)

def tf_law_home_9 : SF := bKill [8, 9, 10, 11, 12, 13, 14] (bCons (sFor (iEnu (fCons (fVar 1) (fNil))) (gTp 2 (gC (gNm 8) (gC (gNm 9) (gN)))) (bCons (sAsg (fVar 6) (gNm 10)) (tf_law_home_8))) (bCons (sRet (fOp oTupOf (fCons (fBor 5) (fNil)))) (bNil)))

def tf_law_home_10 : SF := bCons (sAsg (fOp oCatL (fCons (fOp oCatL (fCons (fOp oLst (fCons (fCst (.str "")) (fCons (fCst (.str "")) (fNil)))) (fCons (fCall S_law_names [.l, .v] [] (fCons (fBor 0) (fCons (fCst (.int 3)) (fNil)))) fNil))) (fCons (fOp oLstOf (fCons (fOp oS01 (fCons (fVar 1) (fCons (fCst (.int 1)) fNil))) (fNil))) fNil))) (gNm 4)) (tf_law_home_9)

/-- ['_law_sack_here', '_law_words', '_law_wide', '_law_cap', '_law_sounds', '_law_found', '_law_many', '_law_thin', '_law_k', '_law_name', '_law_rest', '_law_other', '_law_place', '_law_long', '_law_bells', '_law_told'] mut [0] -/
def tf_law_home : SF := bCons (sPar3 5 6 7 (fCons (fOp oLst (fNil)) (fCons (fCst (.int 1)) (fCons (fOp oAdd (fCons (fCst (.int 1)) (fCons (fCall S_law_take [.l, .v] [] (fCons (fBor 0) (fCons (fCst (.int 4)) (fNil)))) fNil))) (fNil))))) (tf_law_home_10)

def tf_law_some_home_1 : SF := bCons (sRet (fCall S_law_home [.l, .v, .v, .v] [] (fCons (fBor 0) (fCons (fFrz 1) (fCons (fOp oIx (fCons (fOp oLst (fCons (fCst (.int 4)) (fCons (fCst (.int 9)) (fCons (fCst (.int 60)) (fNil))))) (fCons (fCall S_law_take [.l, .v] [] (fCons (fBor 0) (fCons (fCst (.int 3)) (fNil)))) fNil))) (fCons (fOp oPow (fCons (fCst (.int 10)) (fCons (fCst (.int 12)) fNil))) (fNil))))))) (bNil)

/-- ['_law_sack_here', '_law_words'] mut [0] -/
def tf_law_some_home : SF := bCons (sAsg (fCall S_law_names [.l, .v] [] (fCons (fBor 0) (fCons (fOp oAdd (fCons (fCst (.int 1)) (fCons (fCall S_law_take [.l, .v] [] (fCons (fBor 0) (fCons (fCst (.int 5)) (fNil)))) fNil))) (fNil)))) (gNm 1)) (tf_law_some_home_1)

/-- ['_law_sack_here', '_law_home_here', '_law_name', '_law_long', '_law_bells'] mut [0] -/
def tf_law_stand : SF := bCons (sRet (fOp oTupOf (fCons (fLc [2, 3, 4] (iTup (fVar 1)) (gTp 3 (gC (gNm 2) (gC (gNm 3) (gC (gNm 4) (gN))))) (tYesF) (fOp oTup (fCons (fCall S_law_take [.l, .v] [] (fCons (fBor 0) (fCons (fVar 3) (fNil)))) (fCons (fOp oSub (fCons (fCst (.int 1)) (fCons (fOp oMul (fCons (fCst (.int 2)) (fCons (fCall S_law_take [.l, .v] [] (fCons (fBor 0) (fCons (fCst (.int 2)) (fNil)))) fNil))) fNil))) (fNil))))) (fNil)))) (bNil)

/-- ['house', 'name', 'rest'] mut [] -/
def tf_names_of : SF := bCons (sRet (fOp oTupOf (fCons (fLc [1, 2] (iTup (fVar 0)) (gHd (gNm 1) 2) (tYesF) (fVar 1)) (fNil)))) (bNil)

def tf_turned_1 : SF := bCons (sIf (fTest (fOp oNotInD (fCons (fVar 4) (fCons (fVar 3) fNil)))) (sNever) (bNil)) (bNil)

def tf_turned_2 : SF := bCons (sRet (fOp oTupOf (fCons (fLc [4, 5, 6] (iZip (fCons (fVar 3) (fCons (fVar 1) (fNil)))) (gTp 2 (gC (gNm 4) (gC (gTp 2 (gC (gNm 5) (gC (gNm 6) (gN)))) (gN)))) (tYesF) (fOp oTup (fCons (fVar 5) (fCons (fIfE (fTest (fOp oInD (fCons (fVar 4) (fCons (fVar 2) fNil)))) (fOp oNeg (fCons (fVar 6) fNil)) (fVar 6)) (fNil))))) (fNil)))) (bNil)

def tf_turned_3 : SF := bCons (sFor (iAny (fVar 2)) (gNm 4) (tf_turned_1)) (tf_turned_2)

/-- ['house', 'standing', 'names', 'own', 'name', 'place', 'way'] mut [] -/
def tf_turned : SF := bCons (sAsg (fCall S_names_of [.v] [] (fCons (fVar 0) (fNil))) (gNm 3)) (tf_turned_3)

def tf_bells_here_1 : SF := bCons (sDrop (fMut 2 mExt (fCons (fLc [8] (iTup (fVar 5)) (gNm 8) (fTest (fOp oEqS (fCons (fOp oIx (fCons (fVar 8) (fCons (fCst (.int 0)) fNil))) (fCons (fVar 6) fNil)))) (fVar 8)) (fNil)))) (bKill [3, 4, 5, 6, 7] (bNil))

def tf_bells_here_2 : SF := bKill [3, 4, 5, 6, 7] (bCons (sFor (iZip (fCons (fVar 0) (fCons (fVar 1) (fNil)))) (gTp 2 (gC (gTp 3 (gC (gNm 3) (gC (gNm 4) (gC (gNm 5) (gN))))) (gC (gTp 2 (gC (gNm 6) (gC (gNm 7) (gN)))) (gN)))) (tf_bells_here_1)) (bCons (sRet (fMv 2)) (bNil)))

/-- ['house', 'standing', 'found', 'name', 'long', 'bells', 'place', 'way', 'bell'] mut [] -/
def tf_bells_here : SF := bCons (sAsg (fOp oLst (fNil)) (gNm 2)) (tf_bells_here_2)

def tf_told_oddly_1 : SF := bCons (sDrop (fMut 2 mExt (fCons (fVar 5) (fNil)))) (bKill [3, 4, 5] (bNil))

def tf_told_oddly_2 : SF := bCons (sRet (fOp oTupOf (fCons (fLc [6] (iTup (fCall S_names_of [.v] [] (fCons (fVar 0) (fNil)))) (gNm 6) (fTest (fOp oEqS (fCons (fOp oMod (fCons (fLs oCountS (fBor 2) (fCons (fVar 6) (fNil))) (fCons (fCst (.int 2)) fNil))) (fCons (fCst (.int 1)) fNil)))) (fVar 6)) (fNil)))) (bNil)

def tf_told_oddly_3 : SF := bKill [3, 4, 5] (bCons (sFor (iLst (fCall S_bells_here [.v, .v] [] (fCons (fVar 0) (fCons (fVar 1) (fNil))))) (gTp 3 (gC (gNm 3) (gC (gNm 4) (gC (gNm 5) (gN))))) (tf_told_oddly_1)) (tf_told_oddly_2))

/-- ['house', 'standing', 'called', 'place', 'sound', 'told', 'name'] mut [] -/
def tf_told_oddly : SF := bCons (sAsg (fOp oLst (fNil)) (gNm 2)) (tf_told_oddly_3)

/-- ['house', 'standing'] mut [] -/
def tf_rung : SF := bCons (sRet (fCall S_turned [.v, .v, .v] [] (fCons (fVar 0) (fCons (fVar 1) (fCons (fCall S_told_oddly [.v, .v] [] (fCons (fVar 0) (fCons (fVar 1) (fNil)))) (fNil)))))) (bNil)

/-- ['house', 'standing'] mut [] -/
def tf_mirrored : SF := bCons (sRet (fCall S_turned [.v, .v, .v] [] (fCons (fVar 0) (fCons (fCall S_rung [.v, .v] [] (fCons (fVar 0) (fCons (fVar 1) (fNil)))) (fCons (fCall S_names_of [.v] [] (fCons (fVar 0) (fNil))) (fNil)))))) (bNil)

/-- ['house', 'standing', 'place', 'sound', 'told'] mut [] -/
def tf_heard : SF := bCons (sRet (fOp oTupOf (fCons (fOp oSortS (fCons (fLc [2, 3, 4] (iLst (fCall S_bells_here [.v, .v] [] (fCons (fVar 0) (fCons (fVar 1) (fNil))))) (gTp 3 (gC (gNm 2) (gC (gNm 3) (gC (gNm 4) (gN))))) (fTest (fOp oNeS (fCons (fVar 3) (fCons (fCst (.str "")) fNil)))) (fVar 3)) (fNil))) (fNil)))) (bNil)

/-- ['_law_found', '_law_due', '_law_one', '_law_other'] mut [] -/
def tf_law_alike (d : Nat) : SF := bCons (sIf (fTest (fIsi2 .tup .lst (fVar 1))) (bCons (sIf (fOr (fTest (fOp oNeS (fCons (fIsi .tup (fVar 0)) (fCons (fIsi .tup (fVar 1)) fNil)))) (fTest (fOp oNeS (fCons (fIsi .lst (fVar 0)) (fCons (fIsi .lst (fVar 1)) fNil))))) (bCons (sRet (fCst (.bool false))) (bNil)) (bNil)) (bCons (sRet (fAndV (fOp oEqS (fCons (fOp oLen (fCons (fVar 0) (fNil))) (fCons (fOp oLen (fCons (fVar 1) (fNil))) fNil))) (fOp oAll (fCons (fLc [2, 3] (iZip (fCons (fVar 0) (fCons (fVar 1) (fNil)))) (gTp 2 (gC (gNm 2) (gC (gNm 3) (gN)))) (tYesF) (fCall (S_law_alike d) [.v, .v] [] (fCons (fVar 2) (fCons (fVar 3) (fNil))))) (fNil))))) (bNil))) (bNil)) (bCons (sIf (fOr (fTest (fOp oNeS (fCons (fIsi .bl (fVar 0)) (fCons (fIsi .bl (fVar 1)) fNil)))) (fTest (fOp oNeS (fCons (fIsi .int (fVar 0)) (fCons (fIsi .int (fVar 1)) fNil))))) (bCons (sRet (fCst (.bool false))) (bNil)) (bNil)) (bCons (sRet (fOp oEqS (fCons (fVar 0) (fCons (fVar 1) fNil)))) (bNil)))

/-- ['_law_home_here', '_law_name', '_law_long', '_law_bells'] mut [] -/
def tf_law_called : SF := bCons (sRet (fLc [1, 2, 3] (iTup (fVar 0)) (gTp 3 (gC (gNm 1) (gC (gNm 2) (gC (gNm 3) (gN))))) (tYesF) (fVar 1))) (bNil)

def tf_law_flip_1 : SF := bCons (sDrop (fMut 3 mApp (fCons (fOp oTup (fCons (fVar 5) (fCons (fOp oIx (fCons (fOp oLst (fCons (fVar 6) (fCons (fOp oSub (fCons (fCst (.int 0)) (fCons (fVar 6) fNil))) (fNil)))) (fCons (fOp oInt (fCons (fOp oInD (fCons (fVar 4) (fCons (fBor 2) fNil))) (fNil))) fNil))) (fNil)))) (fNil)))) (bKill [4, 5, 6] (bNil))

def tf_law_flip_2 : SF := bKill [4, 5, 6] (bCons (sFor (iZip (fCons (fCall S_law_called [.v] [] (fCons (fVar 0) (fNil))) (fCons (fVar 1) (fNil)))) (gTp 2 (gC (gNm 4) (gC (gTp 2 (gC (gNm 5) (gC (gNm 6) (gN)))) (gN)))) (tf_law_flip_1)) (bCons (sRet (fOp oTupOf (fCons (fBor 3) (fNil)))) (bNil)))

/-- ['_law_home_here', '_law_stand_here', '_law_who', '_law_found', '_law_name', '_law_place', '_law_way'] mut [] -/
def tf_law_flip : SF := bCons (sAsg (fOp oLst (fNil)) (gNm 3)) (tf_law_flip_2)

def tf_law_here_1 : SF := bCons (sDrop (fMut 2 mExt (fCons (fLc [8, 9, 10] (iTup (fVar 5)) (gTp 3 (gC (gNm 8) (gC (gNm 9) (gC (gNm 10) (gN))))) (fTest (fOp oEqS (fCons (fVar 8) (fCons (fVar 6) fNil)))) (fOp oTup (fCons (fVar 9) (fCons (fVar 10) (fNil))))) (fNil)))) (bKill [3, 4, 5, 6, 7] (bNil))

def tf_law_here_2 : SF := bKill [3, 4, 5, 6, 7] (bCons (sFor (iZip (fCons (fVar 0) (fCons (fVar 1) (fNil)))) (gTp 2 (gC (gTp 3 (gC (gNm 3) (gC (gNm 4) (gC (gNm 5) (gN))))) (gC (gTp 2 (gC (gNm 6) (gC (gNm 7) (gN)))) (gN)))) (tf_law_here_1)) (bCons (sRet (fMv 2)) (bNil)))

/-- ['_law_home_here', '_law_stand_here', '_law_found', '_law_name', '_law_long', '_law_bells', '_law_place', '_law_way', '_law_at', '_law_sound', '_law_told'] mut [] -/
def tf_law_here : SF := bCons (sAsg (fOp oLst (fNil)) (gNm 2)) (tf_law_here_2)

def tf_law_rung_1 : SF := bCons (sAsg (fCall S_law_flip [.v, .v, .v] [] (fCons (fVar 0) (fCons (fVar 1) (fCons (fVar 3) (fNil))))) (gNm 1)) (bKill [2, 3] (bNil))

/-- ['_law_home_here', '_law_stand_here', '_law_sound', '_law_told'] mut [] -/
def tf_law_rung : SF := bKill [2, 3] (bCons (sFor (iLst (fCall S_law_here [.v, .v] [] (fCons (fVar 0) (fCons (fVar 1) (fNil))))) (gTp 2 (gC (gNm 2) (gC (gNm 3) (gN)))) (tf_law_rung_1)) (bCons (sRet (fVar 1)) (bNil)))

/-- ['_law_home_here', '_law_stand_here'] mut [] -/
def tf_law_mirror : SF := bCons (sRet (fCall S_law_flip [.v, .v, .v] [] (fCons (fVar 0) (fCons (fCall S_law_rung [.v, .v] [] (fCons (fVar 0) (fCons (fVar 1) (fNil)))) (fCons (fCall S_law_called [.v] [] (fCons (fVar 0) (fNil))) (fNil)))))) (bNil)

end PW
end HmT
section HmP
set_option maxRecDepth 100000
set_option maxHeartbeats 1000000
/-! HmP: the promises of the sack family's helpers are kept, and the mathematics of beats. -/
namespace PW
open PySem L2
open PyProof.Rows hiding St
local macro_rules | `(tactic| walk_at "pw") => `(tactic| simp only [iAny, sTupN, sPar3, setO, sSetK, fGetK, fNeK, fPopK, fDk, valsO, fCallK, fCat, fPerm, fLenA, dsO, pmD, vals, fIsi2, iZip, iEnu, iStrF, gHd, itsOf, fStr1, fLs, mPop, mPopAt, mExt, fAsI, oS00, oS01, oS10, oS11, oRev, cutT, oDivW, oCatS, oCatT, oRepL, oIsN, oNotN, isN, oAbs, fCh, fOfT, fIfE, oEqD, oNeD, dOf, lk_great, lk_now, lk_seed, lk_turn, pt_now, pt_seed, pt_turn, rp_great, sack_len, sackT, houD, stD, strsD, List.length_append, bCons, bNil, bKill, killS, sAsg, sRet, sIf, sDrop, sPar, sFor, fCall, pass, fLc, iRg1, iRg2, iLst, iTup, iEnumL, seqOf, tYesF, ownsOf, putBack, keepD, gTp, gC, gN, fOp, fCons, fNil, fVar, fBor, fCst, fMv, fFrz, fFz, withR, gNm, fTest, fNot, fOr, fAnd, fAndV, fOrV, fIsi, tyOf, Ty.isi, oAdd, oSub, oMul, oDiv, oMod, oPow, oNeg, oCmp, oEqS, oNeS, oTup, oLst, datas, oLen, oIx, oInt, oMax2, oMin2, oCatL, sSubL, fMut, mApp, CDiv, CMul, CPow, List.replicate, List.cons_append, List.nil_append, List.getElem?_cons_zero, List.getElem?_cons_succ, List.getD_cons_zero, List.getD_cons_succ, List.set_cons_zero, List.set_cons_succ, List.length_cons, List.length_nil, List.length_map, sizeLine_eq, Nat.reduceAdd, Nat.reduceLeDiff, Nat.reduceLT, true_and, and_true, true_or, or_true, and_self, Bool.false_eq_true, if_true, if_false, decide_eq_true_eq, atI0, atI1, atI2, at_pick, ixN, Option.bind_some, Int.reduceLE, Int.reduceLT, Int.reduceNeg, Int.reduceToNat, Int.reduceAdd, Int.reducePow, Int.reduceMul, Int.reduceAbs, Nat.reducePow, Int.cast_ofNat_Int, Int.toNat_zero, Int.toNat_one, ↓reduceIte, Std.le_refl, List.map_nil, List.append_nil, List.tail_cons, List.headD_cons, List.take_succ_cons, List.take_zero, List.take_nil])
theorem p_names_of (ss : List Slot) (R : T → List Slot → Prop) (hl : ss.length = 1) (h : S_names_of ss R) : tf_names_of { nx := fun ρ => R (.d .none) (finS [] 1 ρ), rt := fun t ρ => R t (finS [] 1 ρ) } (ss ++ List.replicate 2 .un) := by
  obtain ⟨h0, rfl, hn, h⟩ := h
  simp only [tf_names_of]
  walk_at "pw"
  refine lpC_map (fun d => match d with | .tuple (x :: _) => x | _ => .none) (by rw [List.length_map, sizeLine_eq]; omega) ?_ ?_
  · walk_at "pw"
    refine ⟨_, _, rfl, rfl, ?_, ?_⟩
    · rw [List.length_map, List.length_map, sizeLine_eq]; omega
    · have e : ((h0.map Wkr.d).map fun d => match d with | .tuple (x :: _) => x | _ => .none) = (names h0).map .str := by
        unfold names
        rw [List.map_map, List.map_map]
        rfl
      rw [e]
      exact h _
  · intro x k1 hx hk
    obtain ⟨w, hw, rfl⟩ := List.mem_map.mp hx
    simp only [Wkr.d] at hk ⊢
    walk_at "pw"
    exact hk
/-! ### rows of pairs -/
theorem zipD_mem : ∀ {xs ys : List D} {x : D}, x ∈ zipD xs ys → ∃ a b, a ∈ xs ∧ b ∈ ys ∧ x = .tuple [a, b]
  | a :: xs, b :: ys, x, h => by
    unfold zipD at h
    rcases List.mem_cons.mp h with rfl | h
    · exact ⟨a, b, by simp, by simp, rfl⟩
    · obtain ⟨c, d, hc, hd, e⟩ := zipD_mem h
      exact ⟨c, d, by simp [hc], by simp [hd], e⟩
  | [], _, _, h => by unfold zipD at h; cases h
  | _ :: _, [], _, h => by unfold zipD at h; cases h
/-- one pair of a name and a place, turned -/
def turnD (ns : List Str) : D → D
  | .tuple [.str n, .tuple [.int p, .int w]] => posD (p, if n ∈ ns then -w else w)
  | _ => .none
theorem zip_turn (ns : List Str) : ∀ (h : List Wkr) (s : Stg), (zipD ((names h).map .str) (s.map posD)).map (turnD ns) = (turnd ns h s).map posD
  | [], s => by simp [names, zipD, turnd]
  | w :: h, [] => by simp [names, zipD, turnd]
  | w :: h, p :: s => by
    have ih := zip_turn ns h s
    unfold names at ih ⊢
    simp only [List.map_cons, zipD, turnd, ih]
    rfl
theorem turnd_length (ns : List Str) : ∀ (h : List Wkr) (s : Stg), s.length = h.length → (turnd ns h s).length = h.length
  | [], s, _ => by simp [turnd]
  | w :: h, [], e => by simp at e
  | w :: h, p :: s, e => by simp only [turnd, List.length_cons]; rw [turnd_length ns h s (by simpa using e)]
theorem names_length (h : List Wkr) : (names h).length = h.length := by unfold names; rw [List.length_map]
theorem p_turned (ss : List Slot) (R : T → List Slot → Prop) (hl : ss.length = 3) (h : S_turned ss R) : tf_turned { nx := fun ρ => R (.d .none) (finS [] 3 ρ), rt := fun t ρ => R t (finS [] 3 ρ) } (ss ++ List.replicate 4 .un) := by
  obtain ⟨h0, s0, u, ns, rfl, hu, hn, hs, hin, h⟩ := h
  simp only [tf_turned, tf_turned_1, tf_turned_2, tf_turned_3]
  walk_at "pw"
  refine ⟨h0, rfl, hn, fun fin => ?_⟩
  walk_at "pw"
  have hu2 := hu
  unfold itsOf at hu2
  rw [hu2]
  dsimp only
  refine lp_at (fun i ρ => ∃ s4, ρ = [.own (.d (houD h0)), .own (.d (stD s0)), .own (.d u), .own (.d (strsD (names h0))), s4, .un, .un]) ⟨_, rfl⟩ ?_ ?_
  · rintro ρ ⟨s4, rfl⟩
    walk_at "pw"
    refine ⟨by rw [names_length, hs], ?_⟩
    refine lpC_map (turnD ns) (by rw [zipD_length, List.length_map, List.length_map, names_length, sizeLine_eq]; omega) ?_ ?_
    · rw [zip_turn]
      walk_at "pw"
      refine ⟨_, _, rfl, rfl, ?_, h _⟩
      rw [List.length_map, turnd_length ns h0 s0 hs, sizeLine_eq]; omega
    · intro x k1 hx hk
      obtain ⟨a, b, ha, hb, rfl⟩ := zipD_mem hx
      obtain ⟨n, hn', rfl⟩ := List.mem_map.mp ha
      obtain ⟨p, hp, rfl⟩ := List.mem_map.mp hb
      simp only [posD, turnD] at hk ⊢
      walk_at "pw"
      refine .inl ⟨_, _, _, rfl, hu, ?_⟩
      by_cases hm : n ∈ ns
      · rw [if_pos hm] at hk
        simp only [hm, decide_true]
        walk_at "pw"
        exact hk
      · rw [if_neg hm] at hk
        simp only [hm, decide_false]
        walk_at "pw"
        exact hk
  · rintro i x ρ k hx ⟨s4, rfl⟩ hk
    obtain ⟨n, hn', rfl⟩ := List.mem_map.mp (List.mem_of_getElem? hx)
    walk_at "pw"
    refine .inl ⟨_, _, _, rfl, rfl, ?_⟩
    have : decide (n ∈ names h0) = true := by simpa using hin n hn'
    simp only [this]
    walk_at "pw"
    rw [if_neg (by decide)]
    exact hk _ ⟨_, rfl⟩
/-! ### bells -/
theorem filter_one {α : Type} {f : α → Int} : ∀ {l : List α} {p : Int}, (l.map f).Nodup → (l.filter fun a => decide (f a = p)).length ≤ 1
  | [], _, _ => by simp
  | a :: l, p, h => by
    rw [List.map_cons, List.nodup_cons] at h
    by_cases e : f a = p
    · have : l.filter (fun a => decide (f a = p)) = [] := by
        rw [List.filter_eq_nil_iff]
        intro b hb z
        have z : f b = p := by simpa using z
        exact h.1 (List.mem_map.mpr ⟨b, hb, by rw [z, e]⟩)
      rw [List.filter_cons, this]
      split <;> simp
    · rw [List.filter_cons, if_neg (by simpa using e)]
      exact filter_one h.2
theorem here_length : ∀ {h : List Wkr} {s : Stg}, (∀ w ∈ h, (w.bl.map Bel.pl).Nodup) → (here h s).length ≤ h.length
  | [], s, _ => by simp [here]
  | w :: h, [], _ => by simp [here]
  | w :: h, p :: s, hw => by
    have ih := here_length (h := h) (s := s) fun v hv => hw v (by simp [hv])
    have := filter_one (p := p.1) (hw w (by simp))
    simp only [here, List.length_append, List.length_cons, bellsAt]
    omega
theorem here_take : ∀ (i : Nat) (h : List Wkr) (s : Stg) (w : Wkr) (p : Int × Int), h[i]? = some w → s[i]? = some p → here (h.take (i + 1)) (s.take (i + 1)) = here (h.take i) (s.take i) ++ bellsAt w p.1
  | 0, w' :: h, p' :: s, w, p, hw, hp => by
    simp at hw hp
    subst hw hp
    simp [here]
  | i + 1, w' :: h, p' :: s, w, p, hw, hp => by
    have ih := here_take i h s w p (by simpa using hw) (by simpa using hp)
    simp only [List.take_succ_cons, here, ih, List.append_assoc]
  | 0, [], _, _, _, hw, _ => by simp at hw
  | 0, _ :: _, [], _, _, _, hp => by simp at hp
  | _ + 1, [], _, _, _, hw, _ => by simp at hw
  | _ + 1, _ :: _, [], _, _, _, hp => by simp at hp
theorem zip_at {xs ys : List D} {i : Nat} {x : D} (h : (zipD xs ys)[i]? = some x) : ∃ a b, xs[i]? = some a ∧ ys[i]? = some b ∧ x = .tuple [a, b] := by
  have hl := (List.getElem?_eq_some_iff.mp h).1
  rw [zipD_length] at hl
  have h1 : xs[i]? = some xs[i] := List.getElem?_eq_getElem (by omega)
  have h2 : ys[i]? = some ys[i] := List.getElem?_eq_getElem (by omega)
  rw [zipD_get xs ys i _ _ h1 h2] at h
  exact ⟨_, _, h1, h2, (Option.some.inj h).symm⟩
theorem map_at {α : Type} {f : α → D} {l : List α} {i : Nat} {x : D} (h : (l.map f)[i]? = some x) : ∃ a, l[i]? = some a ∧ x = f a := by
  rw [List.getElem?_map] at h
  cases e : l[i]? with
  | none => rw [e] at h; cases h
  | some a => rw [e] at h; exact ⟨a, rfl, (Option.some.inj h).symm⟩
theorem p_bells_here (ss : List Slot) (R : T → List Slot → Prop) (hl : ss.length = 2) (h : S_bells_here ss R) : tf_bells_here { nx := fun ρ => R (.d .none) (finS [] 2 ρ), rt := fun t ρ => R t (finS [] 2 ρ) } (ss ++ List.replicate 7 .un) := by
  obtain ⟨h0, s0, rfl, ok, hs, h⟩ := h
  have few := ok.few
  simp only [tf_bells_here, tf_bells_here_1, tf_bells_here_2]
  walk_at "pw"
  refine ⟨hs.symm, ?_⟩
  have hz : (zipD (h0.map Wkr.d) (s0.map posD)).length = h0.length := by rw [zipD_length, List.length_map, List.length_map]; omega
  refine lp_at (fun i ρ => ρ = [.own (.d (houD h0)), .own (.d (stD s0)), .own (.ls ((here (h0.take i) (s0.take i)).map Bel.d)), .un, .un, .un, .un, .un, .un]) (by simp [here, houD, stD]) ?_ ?_
  · rintro ρ rfl
    rw [hz, List.take_length, ← hs, List.take_length]
    walk_at "pw"
    exact h _
  · rintro i x ρ k hx rfl hk
    obtain ⟨a, b, ha, hb, rfl⟩ := zip_at hx
    obtain ⟨w, hw, rfl⟩ := map_at ha
    obtain ⟨p, hp, rfl⟩ := map_at hb
    have hwm : w ∈ h0 := List.mem_of_getElem? hw
    simp only [Wkr.d, posD]
    walk_at "pw"
    refine lpC_fm (fun d => match d with | .tuple [.int q, r, t] => if q = p.1 then some (.tuple [.int q, r, t]) else none | _ => none) (by have := ok.bl w hwm; rw [List.length_map, sizeLine_eq]; omega) ?_ ?_
    · have e : (w.bl.map Bel.d).filterMap (fun d => match d with | .tuple [.int q, r, t] => if q = p.1 then some (.tuple [.int q, r, t]) else none | _ => none) = (bellsAt w p.1).map Bel.d := by
        unfold bellsAt
        induction w.bl with
        | nil => rfl
        | cons b bs ih =>
          rw [List.map_cons, List.filterMap_cons, List.filter_cons, ih]
          by_cases e : b.pl = p.1
          · simp [Bel.d, e]
          · simp [Bel.d, e]
      rw [e]
      walk_at "pw"
      have l1 := here_length (h := h0.take (i + 1)) (s := s0.take (i + 1)) fun v hv => ok.one v (List.take_subset _ _ hv)
      have l2 : (h0.take (i + 1)).length ≤ 5 := by rw [List.length_take]; omega
      have e2 := here_take i h0 s0 w p hw hp
      rw [e2, List.length_append] at l1
      refine ⟨by omega, hk _ ?_⟩
      rw [e2, List.map_append]
      simp [houD, stD]
    · intro x k1 k2 hx hy hn
      obtain ⟨b, hb, rfl⟩ := List.mem_map.mp hx
      simp only [Bel.d] at hy hn ⊢
      walk_at "pw"
      by_cases e : b.pl = p.1
      · simp only [e, decide_true, if_true] at hy ⊢
        exact hy _ rfl
      · simp only [e, decide_false] at hn ⊢
        exact hn (by simp [e])
theorem p_law_here (ss : List Slot) (R : T → List Slot → Prop) (hl : ss.length = 2) (h : S_law_here ss R) : tf_law_here { nx := fun ρ => R (.d .none) (finS [] 2 ρ), rt := fun t ρ => R t (finS [] 2 ρ) } (ss ++ List.replicate 9 .un) := by
  obtain ⟨h0, s0, rfl, ok, hs, h⟩ := h
  have few := ok.few
  simp only [tf_law_here, tf_law_here_1, tf_law_here_2]
  walk_at "pw"
  refine ⟨hs.symm, ?_⟩
  have hz : (zipD (h0.map Wkr.d) (s0.map posD)).length = h0.length := by rw [zipD_length, List.length_map, List.length_map]; omega
  refine lp_at (fun i ρ => ρ = [.own (.d (houD h0)), .own (.d (stD s0)), .own (.ls ((here (h0.take i) (s0.take i)).map hereD)), .un, .un, .un, .un, .un, .un, .un, .un]) (by simp [here, houD, stD]) ?_ ?_
  · rintro ρ rfl
    rw [hz, List.take_length, ← hs, List.take_length]
    walk_at "pw"
    exact h _
  · rintro i x ρ k hx rfl hk
    obtain ⟨a, b, ha, hb, rfl⟩ := zip_at hx
    obtain ⟨w, hw, rfl⟩ := map_at ha
    obtain ⟨p, hp, rfl⟩ := map_at hb
    have hwm : w ∈ h0 := List.mem_of_getElem? hw
    simp only [Wkr.d, posD]
    walk_at "pw"
    refine lpC_fm (fun d => match d with | .tuple [.int q, r, t] => if q = p.1 then some (.tuple [r, t]) else none | _ => none) (by have := ok.bl w hwm; rw [List.length_map, sizeLine_eq]; omega) ?_ ?_
    · have e : (w.bl.map Bel.d).filterMap (fun d => match d with | .tuple [.int q, r, t] => if q = p.1 then some (.tuple [r, t]) else none | _ => none) = (bellsAt w p.1).map hereD := by
        unfold bellsAt
        induction w.bl with
        | nil => rfl
        | cons b bs ih =>
          rw [List.map_cons, List.filterMap_cons, List.filter_cons, ih]
          by_cases e : b.pl = p.1
          · simp [Bel.d, hereD, e]
          · simp [Bel.d, hereD, e]
      rw [e]
      walk_at "pw"
      have l1 := here_length (h := h0.take (i + 1)) (s := s0.take (i + 1)) fun v hv => ok.one v (List.take_subset _ _ hv)
      have l2 : (h0.take (i + 1)).length ≤ 5 := by rw [List.length_take]; omega
      have e2 := here_take i h0 s0 w p hw hp
      rw [e2, List.length_append] at l1
      refine ⟨by omega, hk _ ?_⟩
      rw [e2, List.map_append]
      simp [houD, stD]
    · intro x k1 k2 hx hy hn
      obtain ⟨b, hb, rfl⟩ := List.mem_map.mp hx
      simp only [Bel.d] at hy hn ⊢
      walk_at "pw"
      by_cases e : b.pl = p.1
      · simp only [e, decide_true, if_true] at hy ⊢
        exact hy _ rfl
      · simp only [e, decide_false] at hn ⊢
        exact hn (by simp [e])
/-! ### the others of the program -/
theorem oddly_sub (h : List Wkr) (s : Stg) : ∀ n ∈ oddly h s, n ∈ names h := fun n hn => (List.mem_filter.mp hn).1
theorem p_rung (ss : List Slot) (R : T → List Slot → Prop) (hl : ss.length = 2) (h : S_rung ss R) : tf_rung { nx := fun ρ => R (.d .none) (finS [] 2 ρ), rt := fun t ρ => R t (finS [] 2 ρ) } (ss ++ List.replicate 0 .un) := by
  obtain ⟨h0, s0, rfl, ok, hs, h⟩ := h
  have few := ok.few
  simp only [tf_rung]
  walk_at "pw"
  refine ⟨h0, s0, rfl, ok, hs, fun fin => ?_⟩
  walk_at "pw"
  exact ⟨h0, s0, _, oddly h0 s0, rfl, rfl, by omega, hs, oddly_sub h0 s0, fun fin => h _⟩
theorem rungM_length {h : List Wkr} {s : Stg} (e : s.length = h.length) : (rungM h s).length = h.length := turnd_length _ h s e
theorem p_mirrored (ss : List Slot) (R : T → List Slot → Prop) (hl : ss.length = 2) (h : S_mirrored ss R) : tf_mirrored { nx := fun ρ => R (.d .none) (finS [] 2 ρ), rt := fun t ρ => R t (finS [] 2 ρ) } (ss ++ List.replicate 0 .un) := by
  obtain ⟨h0, s0, rfl, ok, hs, h⟩ := h
  have few := ok.few
  simp only [tf_mirrored]
  walk_at "pw"
  refine ⟨h0, s0, rfl, ok, hs, fun fin => ?_⟩
  walk_at "pw"
  refine ⟨h0, rfl, by omega, fun fin => ?_⟩
  walk_at "pw"
  exact ⟨h0, rungM h0 s0, _, names h0, rfl, rfl, by omega, rungM_length hs, fun n hn => hn, fun fin => h _⟩
theorem p_law_called (ss : List Slot) (R : T → List Slot → Prop) (hl : ss.length = 1) (h : S_law_called ss R) : tf_law_called { nx := fun ρ => R (.d .none) (finS [] 1 ρ), rt := fun t ρ => R t (finS [] 1 ρ) } (ss ++ List.replicate 3 .un) := by
  obtain ⟨h0, rfl, hn, h⟩ := h
  simp only [tf_law_called]
  walk_at "pw"
  refine lpC_map (fun d => match d with | .tuple (x :: _) => x | _ => .none) (by rw [List.length_map, sizeLine_eq]; omega) ?_ ?_
  · walk_at "pw"
    have e : ((h0.map Wkr.d).map fun d => match d with | .tuple (x :: _) => x | _ => .none) = (names h0).map .str := by
      unfold names
      rw [List.map_map, List.map_map]
      rfl
    rw [e]
    exact h _
  · intro x k1 hx hk
    obtain ⟨w, hw, rfl⟩ := List.mem_map.mp hx
    simp only [Wkr.d] at hk ⊢
    walk_at "pw"
    exact hk
theorem turnd_take (ns : List Str) : ∀ (i : Nat) (h : List Wkr) (s : Stg) (w : Wkr) (p : Int × Int), h[i]? = some w → s[i]? = some p → turnd ns (h.take (i + 1)) (s.take (i + 1)) = turnd ns (h.take i) (s.take i) ++ [(p.1, if w.nm ∈ ns then -p.2 else p.2)]
  | 0, w' :: h, p' :: s, w, p, hw, hp => by
    simp at hw hp
    subst hw hp
    simp [turnd]
  | i + 1, w' :: h, p' :: s, w, p, hw, hp => by
    have ih := turnd_take ns i h s w p (by simpa using hw) (by simpa using hp)
    simp only [List.take_succ_cons, turnd, ih, List.cons_append]
  | 0, [], _, _, _, hw, _ => by simp at hw
  | 0, _ :: _, [], _, _, _, hp => by simp at hp
  | _ + 1, [], _, _, _, hw, _ => by simp at hw
  | _ + 1, _ :: _, [], _, _, _, hp => by simp at hp
theorem p_law_flip (ss : List Slot) (R : T → List Slot → Prop) (hl : ss.length = 3) (h : S_law_flip ss R) : tf_law_flip { nx := fun ρ => R (.d .none) (finS [] 3 ρ), rt := fun t ρ => R t (finS [] 3 ρ) } (ss ++ List.replicate 4 .un) := by
  obtain ⟨h0, s0, u, ns, rfl, hu, hn, hs, h⟩ := h
  simp only [tf_law_flip, tf_law_flip_1, tf_law_flip_2]
  walk_at "pw"
  refine ⟨h0, rfl, hn, fun fin => ?_⟩
  walk_at "pw"
  refine ⟨by rw [names_length, hs], ?_⟩
  have hz : (zipD ((names h0).map .str) (s0.map posD)).length = h0.length := by rw [zipD_length, List.length_map, List.length_map, names_length]; omega
  refine lp_at (fun i ρ => ρ = [.own (.d (houD h0)), .own (.d (stD s0)), .own u, .own (.ls ((turnd ns (h0.take i) (s0.take i)).map posD)), .un, .un, .un]) (by simp [turnd, houD, stD]) ?_ ?_
  · rintro ρ rfl
    rw [hz, List.take_length, ← hs, List.take_length]
    walk_at "pw"
    refine ⟨_, _, rfl, rfl, ?_, h _⟩
    rw [List.length_map, turnd_length ns h0 s0 hs, sizeLine_eq]; omega
  · rintro i x ρ k hx rfl hk
    obtain ⟨a, b, ha, hb, rfl⟩ := zip_at hx
    obtain ⟨n, hn1, rfl⟩ := map_at ha
    obtain ⟨p, hp, rfl⟩ := map_at hb
    obtain ⟨w, hw, rfl⟩ : ∃ w, h0[i]? = some w ∧ n = w.nm := by
      unfold names at hn1
      rw [List.getElem?_map] at hn1
      cases e : h0[i]? with
      | none => rw [e] at hn1; cases hn1
      | some w => rw [e] at hn1; exact ⟨w, rfl, (Option.some.inj hn1).symm⟩
    have e2 := turnd_take ns i h0 s0 w p hw hp
    have l1 := turnd_length ns (h0.take i) (s0.take i) (by rw [List.length_take, List.length_take, hs])
    have l2 : (h0.take i).length ≤ 64 := by rw [List.length_take]; omega
    simp only [posD]
    walk_at "pw"
    refine .inl ⟨_, _, _, rfl, hu, ?_⟩
    by_cases hm : w.nm ∈ ns
    · simp only [hm, decide_true]
      walk_at "pw"
      refine ⟨by omega, hk _ ?_⟩
      rw [e2, if_pos hm, List.map_append]
      simp [houD, stD, posD]
    · simp only [hm, decide_false]
      walk_at "pw"
      refine ⟨by omega, hk _ ?_⟩
      rw [e2, if_neg hm, List.map_append]
      simp [houD, stD, posD]
theorem here_mem : ∀ {h : List Wkr} {s : Stg} {b : Bel}, b ∈ here h s → ∃ w ∈ h, b ∈ w.bl
  | w :: h, p :: s, b, hb => by
    simp only [here, List.mem_append] at hb
    rcases hb with hb | hb
    · exact ⟨w, by simp, (List.mem_filter.mp hb).1⟩
    · obtain ⟨v, hv, hb⟩ := here_mem hb
      exact ⟨v, by simp [hv], hb⟩
  | [], s, b, hb => by simp [here] at hb
  | w :: h, [], b, hb => by simp [here] at hb
theorem flat_length {bs : List Bel} : (∀ b ∈ bs, b.to.length ≤ 5) → (bs.flatMap Bel.to).length ≤ 5 * bs.length := by
  induction bs with
  | nil => intro _; simp
  | cons b bs ih =>
    intro h
    have h1 := ih fun c hc => h c (by simp [hc])
    have h2 := h b (by simp)
    rw [List.flatMap_cons, List.length_append, List.length_cons]
    omega
def oddF (cs : List Str) : D → Option D
  | .str n => if cs.count n % 2 = 1 then some (.str n) else none
  | _ => none
def soundF : D → Option D
  | .tuple [_, .str z, _] => if z ≠ "" then some (.str z) else none
  | _ => none
theorem p_told_oddly (ss : List Slot) (R : T → List Slot → Prop) (hl : ss.length = 2) (h : S_told_oddly ss R) : tf_told_oddly { nx := fun ρ => R (.d .none) (finS [] 2 ρ), rt := fun t ρ => R t (finS [] 2 ρ) } (ss ++ List.replicate 5 .un) := by
  obtain ⟨h0, s0, rfl, ok, hs, h⟩ := h
  have few := ok.few
  simp only [tf_told_oddly, tf_told_oddly_1, tf_told_oddly_2, tf_told_oddly_3]
  walk_at "pw"
  refine ⟨h0, s0, rfl, ok, hs, fun fin => ?_⟩
  walk_at "pw"
  have hz : (here h0 s0).length ≤ h0.length := here_length ok.one
  have to5 : ∀ b ∈ here h0 s0, b.to.length ≤ 5 := fun b hb => by
    obtain ⟨w, hw, hb⟩ := here_mem hb
    exact (ok.to w hw b hb).1
  refine lp_at (fun i ρ => ρ = [.own (.d (houD h0)), .own (.d (stD s0)), .own (.ls ((((here h0 s0).take i).flatMap Bel.to).map .str)), .un, .un, .un, .un]) (by simp [houD, stD]) ?_ ?_
  · rintro ρ rfl
    rw [List.length_map, List.take_length]
    walk_at "pw"
    refine ⟨h0, rfl, by omega, fun fin => ?_⟩
    walk_at "pw"
    refine lpC_fm (oddF ((here h0 s0).flatMap Bel.to)) (by rw [List.length_map, names_length, sizeLine_eq]; omega) ?_ ?_
    · have e : ∀ ns : List Str, (ns.map PyData.str).filterMap (oddF ((here h0 s0).flatMap Bel.to)) = (ns.filter fun n => decide (((here h0 s0).flatMap Bel.to).count n % 2 = 1)).map .str := by
        intro ns
        induction ns with
        | nil => rfl
        | cons n ns ih =>
          rw [List.map_cons, List.filterMap_cons, List.filter_cons, ih]
          by_cases e : ((here h0 s0).flatMap Bel.to).count n % 2 = 1
          · simp [oddF, e]
          · simp [oddF, e]
      rw [e]
      walk_at "pw"
      refine ⟨_, _, rfl, rfl, ?_, h _⟩
      have := List.length_filter_le (fun n => decide (((here h0 s0).flatMap Bel.to).count n % 2 = 1)) (names h0)
      rw [names_length] at this
      rw [List.length_map, sizeLine_eq]; omega
    · intro x k1 k2 hx hy hn
      obtain ⟨n, hn', rfl⟩ := List.mem_map.mp hx
      walk_at "pw"
      refine ⟨⟨_, _, rfl, rfl⟩, ?_⟩
      refine ⟨_, _, _, rfl, rfl, ?_⟩
      walk_at "pw"
      by_cases e : ((here h0 s0).flatMap Bel.to).count n % 2 = 1
      · rw [if_pos (by omega)]
        exact hy _ (by simp [oddF, e])
      · rw [if_neg (by omega)]
        exact hn (by simp [oddF, e])
  · rintro i x ρ k hx rfl hk
    obtain ⟨b, hb, rfl⟩ := map_at hx
    simp only [Bel.d]
    walk_at "pw"
    have e2 : (here h0 s0).take (i + 1) = (here h0 s0).take i ++ [b] := by rw [List.take_add_one, hb]; rfl
    have l1 : (((here h0 s0).take i).flatMap Bel.to).length ≤ 5 * ((here h0 s0).take i).length := flat_length fun c hc => to5 c (List.take_subset _ _ hc)
    have l2 : ((here h0 s0).take i).length ≤ 5 := by rw [List.length_take]; omega
    have l3 := to5 b (List.mem_of_getElem? hb)
    refine ⟨by omega, hk _ ?_⟩
    rw [e2, List.flatMap_append, List.map_append]
    simp [houD, stD]
theorem p_heard (ss : List Slot) (R : T → List Slot → Prop) (hl : ss.length = 2) (h : S_heard ss R) : tf_heard { nx := fun ρ => R (.d .none) (finS [] 2 ρ), rt := fun t ρ => R t (finS [] 2 ρ) } (ss ++ List.replicate 3 .un) := by
  obtain ⟨h0, s0, rfl, ok, hs, h⟩ := h
  have few := ok.few
  simp only [tf_heard]
  walk_at "pw"
  refine ⟨h0, s0, rfl, ok, hs, fun fin => ?_⟩
  walk_at "pw"
  have hz : (here h0 s0).length ≤ h0.length := here_length ok.one
  refine lpC_fm soundF (by rw [List.length_map, sizeLine_eq]; omega) ?_ ?_
  · have e : ∀ bs : List Bel, (bs.map Bel.d).filterMap soundF = (soundsOf bs).map .str := by
      intro bs
      unfold soundsOf
      induction bs with
      | nil => rfl
      | cons b bs ih =>
        rw [List.map_cons, List.filterMap_cons, List.map_cons, List.filter_cons, ih]
        by_cases e : b.sd = ""
        · simp [Bel.d, soundF, e]
        · simp [Bel.d, soundF, e]
    rw [e]
    walk_at "pw"
    have l1 : (soundsOf (here h0 s0)).length ≤ 5 := by
      unfold soundsOf
      have := List.length_filter_le (fun z : Str => decide (z ≠ "")) ((here h0 s0).map Bel.sd)
      rw [List.length_map] at this
      omega
    refine ⟨_, _, rfl, rfl, by omega, fun ys hp hsrt => ?_⟩
    refine ⟨_, _, rfl, rfl, ?_, h ys _ hp hsrt⟩
    rw [List.length_map, hp.length_eq, sizeLine_eq]; omega
  · intro x k1 k2 hx hy hn
    obtain ⟨b, hb, rfl⟩ := List.mem_map.mp hx
    simp only [Bel.d] at hy hn ⊢
    walk_at "pw"
    by_cases e : b.sd = ""
    · rw [if_neg (by simp [e])]
      exact hn (by simp [soundF, e])
    · rw [if_pos (by simp [e])]
      exact hy _ (by simp [soundF, e])
/-! ### the law's own reading -/
theorem rungL_length (h : List Wkr) : ∀ (bs : List Bel) (s : Stg), s.length = h.length → (rungL h bs s).length = h.length
  | [], s, e => e
  | b :: bs, s, e => rungL_length h bs _ (turnd_length _ h s e)
theorem rungL_snoc (h : List Wkr) (b : Bel) : ∀ (bs : List Bel) (s : Stg), rungL h (bs ++ [b]) s = turnd b.to h (rungL h bs s)
  | [], s => rfl
  | c :: bs, s => rungL_snoc h b bs _
theorem p_law_rung (ss : List Slot) (R : T → List Slot → Prop) (hl : ss.length = 2) (h : S_law_rung ss R) : tf_law_rung { nx := fun ρ => R (.d .none) (finS [] 2 ρ), rt := fun t ρ => R t (finS [] 2 ρ) } (ss ++ List.replicate 2 .un) := by
  obtain ⟨h0, s0, rfl, ok, hs, h⟩ := h
  have few := ok.few
  simp only [tf_law_rung, tf_law_rung_1]
  walk_at "pw"
  refine ⟨h0, s0, rfl, ok, hs, fun fin => ?_⟩
  walk_at "pw"
  refine lp_at (fun i ρ => ρ = [.own (.d (houD h0)), .own (.d (stD (rungL h0 ((here h0 s0).take i) s0))), .un, .un]) (by simp [houD, stD, rungL]) ?_ ?_
  · rintro ρ rfl
    rw [List.length_map, List.take_length]
    walk_at "pw"
    exact h _
  · rintro i x ρ k hx rfl hk
    obtain ⟨b, hb, rfl⟩ := map_at hx
    simp only [hereD]
    walk_at "pw"
    have e2 : (here h0 s0).take (i + 1) = (here h0 s0).take i ++ [b] := by rw [List.take_add_one, hb]; rfl
    refine ⟨h0, rungL h0 ((here h0 s0).take i) s0, _, b.to, rfl, rfl, by omega, rungL_length _ _ _ hs, fun fin => ?_⟩
    walk_at "pw"
    refine hk _ ?_
    rw [e2, rungL_snoc]
    simp [houD, stD]
theorem p_law_mirror (ss : List Slot) (R : T → List Slot → Prop) (hl : ss.length = 2) (h : S_law_mirror ss R) : tf_law_mirror { nx := fun ρ => R (.d .none) (finS [] 2 ρ), rt := fun t ρ => R t (finS [] 2 ρ) } (ss ++ List.replicate 0 .un) := by
  obtain ⟨h0, s0, rfl, ok, hs, h⟩ := h
  have few := ok.few
  simp only [tf_law_mirror]
  walk_at "pw"
  refine ⟨h0, s0, rfl, ok, hs, fun fin => ?_⟩
  walk_at "pw"
  refine ⟨h0, rfl, by omega, fun fin => ?_⟩
  walk_at "pw"
  exact ⟨h0, rungL h0 (here h0 s0) s0, _, names h0, rfl, rfl, by omega, rungL_length _ _ _ hs, fun fin => h _⟩
/-! ### the sack -/
theorem p_law_take (ss : List Slot) (R : T → List Slot → Prop) (hl : ss.length = 2) (h : S_law_take ss R) : tf_law_take { nx := fun ρ => R (.d .none) (finS [0] 2 ρ), rt := fun t ρ => R t (finS [0] 2 ρ) } (ss ++ List.replicate 2 .un) := by
  obtain ⟨g, n, s, t, m, rfl, hm, hm2, h⟩ := h
  have rest : ∀ (g : List Int) (n : Int), tf_law_take_6 { nx := fun ρ => R (.d .none) (finS [0] 2 ρ), rt := fun t ρ => R t (finS [0] 2 ρ) } [.own (sackT g n s t), .own (.d (.int m)), .un, .un] := by
    intro g n
    simp only [tf_law_take_1, tf_law_take_2, tf_law_take_3, tf_law_take_4, tf_law_take_5, tf_law_take_6]
    walk_at "pw"
    refine ite2 (fun _ => ⟨hm, ⟨hm, hm2⟩, h _ _ _ _ _ _ (Int.emod_nonneg _ (by omega)) (Int.emod_lt_of_pos _ hm)⟩) fun _ => ⟨hm, h _ _ _ _ _ _ (Int.emod_nonneg _ (by omega)) (Int.emod_lt_of_pos _ hm)⟩
  simp only [tf_law_take]
  walk_at "pw"
  simp only [sackT] at rest
  refine ite2 (fun h0 => ⟨?_, ?_⟩) fun h0 => rest _ _
  · first | exact SeqAt.shaped_ints g | exact PySem.SeqAt.shaped_ints g | exact PySem.W.shaped_ints g
  · rcases List.eq_nil_or_concat g with rfl | ⟨g0, x, rfl⟩
    · rw [if_neg (by rw [List.map_nil]; decide)]
      exact rest _ _
    · rw [if_pos (by cases g0 <;> rfl)]
      have e1 : ((g0 ++ [x]).map PyData.int)[(g0 ++ [x]).length - 1]? = some (.int x) := by
        rw [List.map_append, List.length_append, List.length_singleton, Nat.add_sub_cancel]
        rw [List.getElem?_append_right (by rw [List.length_map]; exact Nat.le_refl _), List.length_map, Nat.sub_self]
        rfl
      have e2 : ((g0 ++ [x]).map PyData.int).dropLast = g0.map .int := by rw [List.map_append, List.map_singleton, List.dropLast_concat]
      rw [List.concat_eq_append] at *
      rw [e1, e2, rp_great]
      walk_at "pw"
      exact rest _ _
theorem cut_ints (ns : List Int) (lo hi : Option Int) : ∃ g : List Int, cutD (ns.map .int) lo hi = g.map .int ∧ g.length ≤ ns.length := by
  refine ⟨(ns.drop (HT.sIx ns.length 0 lo)).take (HT.sIx ns.length ns.length hi - HT.sIx ns.length 0 lo), ?_, ?_⟩
  · unfold cutD
    rw [List.length_map, List.map_take, List.map_drop]
  · rw [List.length_take, List.length_drop]; omega
def bigF : D → Option D
  | .int z => if 1000000000000000000 ≤ z then some (.int z) else none
  | _ => none
theorem big_ints : ∀ g : List Int, ∃ g' : List Int, (g.map PyData.int).filterMap bigF = g'.map .int
  | [] => ⟨[], rfl⟩
  | z :: g => by
    obtain ⟨g', e⟩ := big_ints g
    by_cases h : 1000000000000000000 ≤ z
    · exact ⟨z :: g', by rw [List.map_cons, List.filterMap_cons]; simp only [bigF, if_pos h, e]; rfl⟩
    · exact ⟨g', by rw [List.map_cons, List.filterMap_cons]; simp only [bigF, if_neg h, e]⟩
theorem p_law_sack (ss : List Slot) (R : T → List Slot → Prop) (hl : ss.length = 2) (h : S_law_sack ss R) : tf_law_sack { nx := fun ρ => R (.d .none) (finS [] 2 ρ), rt := fun t ρ => R t (finS [] 2 ρ) } (ss ++ List.replicate 3 .un) := by
  obtain ⟨ns, b, rfl, hn, b0, b1, h⟩ := h
  simp only [tf_law_sack, tf_law_sack_1, tf_law_sack_2, tf_law_sack_3, tf_law_sack_4]
  walk_at "pw"
  obtain ⟨g1, e1, l1⟩ := cut_ints ns none (some 40)
  obtain ⟨g2, e2, l2⟩ := cut_ints ns (some b) (some 40)
  rw [e1]
  refine lp_at (fun i ρ => ∃ sd s3, (0 ≤ sd ∧ sd < 2147483647) ∧ ρ = [.own (.d (.list (ns.map .int))), .own (.d (.int b)), .own (.d (.int sd)), s3, .un]) ⟨_, _, by omega, rfl⟩ ?_ ?_
  · rintro ρ ⟨sd, s3, hsd, rfl⟩
    walk_at "pw"
    rw [e2]
    refine lpC_fm bigF (by rw [List.length_map, sizeLine_eq]; omega) ?_ ?_
    · obtain ⟨g3, e3⟩ := big_ints g2
      rw [e3]
      walk_at "pw"
      rw [← List.map_reverse]
      exact h g3.reverse 0 (sd + 1) 0 _
    · intro x k1 k2 hx hy hn
      obtain ⟨z, hz, rfl⟩ := List.mem_map.mp hx
      walk_at "pw"
      by_cases e : 1000000000000000000 ≤ z
      · rw [if_pos (by simpa using e)]
        exact hy _ (by simp [bigF, e])
      · rw [if_neg (by simpa using e)]
        exact hn (by simp [bigF, e])
  · rintro i x ρ k hx ⟨sd, s3, hsd, rfl⟩ hk
    obtain ⟨z, hz, rfl⟩ := map_at hx
    walk_at "pw"
    exact hk _ ⟨_, _, ⟨Int.emod_nonneg _ (by omega), Int.emod_lt_of_pos _ (by omega)⟩, rfl⟩
theorem erase_perm {α : Type} : ∀ (l : List α) (i : Nat) (h : i < l.length), (l[i] :: l.eraseIdx i).Perm l
  | [], _, h => by simp at h
  | a :: l, 0, _ => by simp
  | a :: l, i + 1, h => by
    have ih := erase_perm l i (by simpa using h)
    simp only [List.getElem_cons_succ, List.eraseIdx_cons_succ]
    exact (List.Perm.swap _ _ _).trans (ih.cons a)
/-- one thing taken out of a list goes to the other -/
theorem p_law_mixed (ss : List Slot) (R : T → List Slot → Prop) (hl : ss.length = 2) (h : S_law_mixed ss R) : tf_law_mixed { nx := fun ρ => R (.d .none) (finS [0] 2 ρ), rt := fun t ρ => R t (finS [0] 2 ρ) } (ss ++ List.replicate 3 .un) := by
  obtain ⟨g, n, s, t, u, xs, rfl, hu, hx, h⟩ := h
  simp only [tf_law_mixed, tf_law_mixed_1, tf_law_mixed_2]
  walk_at "pw"
  refine ⟨u, xs, rfl, hu, ?_⟩
  walk_at "pw"
  refine ⟨⟨by omega, by omega⟩, ?_⟩
  refine lp_at (fun i ρ => ∃ left found g n s t, (left ++ found).Perm xs ∧ left.length = xs.length - i ∧ ρ = [.own (sackT g n s t), .own u, .un, .own (.ls left), .own (.ls found)]) ⟨xs, [], g, n, s, t, by simp, by simp, rfl⟩ ?_ ?_
  · rintro ρ ⟨left, found, g, n, s, t, hp, hl, rfl⟩
    rw [upto_length] at hl
    have : left = [] := List.eq_nil_of_length_eq_zero (by omega)
    subst this
    walk_at "pw"
    exact h found g n s t _ (by simpa using hp)
  · rintro i x ρ k hx' ⟨left, found, g, n, s, t, hp, hl, rfl⟩ hk
    obtain ⟨hi, rfl⟩ := upto_at hx'
    have hpos : 0 < left.length := by omega
    have hfl : found.length ≤ 1000 := by have := hp.length_eq; rw [List.length_append] at this; omega
    walk_at "pw"
    refine ⟨g, n, s, t, left.length, rfl, by omega, by omega, fun r g' n' s' t' f r0 r1 => ?_⟩
    walk_at "pw"
    have hr : r.toNat < left.length := by omega
    have e1 : seqIndex? r left.length = some r.toNat := by
      have hn : ¬ r < 0 := by omega
      simp [seqIndex?, hn, r0, r1]
    rw [e1]
    have e2 : left[r.toNat]? = some left[r.toNat] := List.getElem?_eq_getElem hr
    dsimp only
    rw [e2]
    walk_at "pw"
    refine ⟨⟨by omega, by omega⟩, by omega, hk _ ⟨left.eraseIdx r.toNat, found ++ [left[r.toNat]], g', n', s', t', ?_, ?_, rfl⟩⟩
    · refine List.Perm.trans ?_ hp
      have p1 := erase_perm left r.toNat hr
      have p2 : (left.eraseIdx r.toNat ++ (found ++ [left[r.toNat]])).Perm ((left[r.toNat] :: left.eraseIdx r.toNat) ++ found) := by
        rw [← List.append_assoc]
        exact (List.perm_append_singleton _ _)
      exact p2.trans (p1.append_right _)
    · rw [List.length_eraseIdx_of_lt hr]; omega
theorem okS_snoc : ∀ {h : List Wkr} {s : Stg} {w : Wkr} {p : Int × Int}, OkS h s → 0 ≤ p.1 → p.1 < w.lg → (p.2 = 1 ∨ p.2 = -1) → OkS (h ++ [w]) (s ++ [p])
  | [], [], _, _, _, a, b, c => ⟨a, b, c, True.intro⟩
  | _ :: _, _ :: _, _, _, ⟨x, y, z, r⟩, a, b, c => ⟨x, y, z, okS_snoc r a b c⟩
  | [], _ :: _, _, _, o, _, _, _ => o.elim
  | _ :: _, [], _, _, o, _, _, _ => o.elim
theorem okS_length : ∀ {h : List Wkr} {s : Stg}, OkS h s → s.length = h.length
  | [], [], _ => rfl
  | _ :: _, _ :: _, ⟨_, _, _, r⟩ => by rw [List.length_cons, List.length_cons, okS_length r]
  | [], _ :: _, o => o.elim
  | _ :: _, [], o => o.elim
theorem p_law_stand (ss : List Slot) (R : T → List Slot → Prop) (hl : ss.length = 2) (h : S_law_stand ss R) : tf_law_stand { nx := fun ρ => R (.d .none) (finS [0] 2 ρ), rt := fun t ρ => R t (finS [0] 2 ρ) } (ss ++ List.replicate 3 .un) := by
  obtain ⟨g, n, s, t, h0, rfl, ok, h⟩ := h
  have few := ok.few
  simp only [tf_law_stand]
  walk_at "pw"
  refine lpC_at (fun i acc ρ => ∃ st g n s t, acc = st.map posD ∧ OkS (h0.take i) st ∧ ρ = [.own (sackT g n s t), .own (.d (houD h0)), .un, .un, .un]) ⟨[], g, n, s, t, rfl, by simp [OkS], by simp [sackT, houD]⟩ (by rw [List.length_map, sizeLine_eq]; omega) ?_ ?_
  · rintro acc ρ ⟨st, g, n, s, t, rfl, hok, rfl⟩
    rw [List.length_map, List.take_length] at hok
    walk_at "pw"
    refine ⟨_, _, rfl, rfl, ?_, h st g n s t _ hok⟩
    rw [List.length_map, okS_length hok, sizeLine_eq]; omega
  · rintro i x acc ρ k1 k2 hx ⟨st, g, n, s, t, rfl, hok, rfl⟩ h1 h2
    obtain ⟨w, hw, rfl⟩ := map_at hx
    have hlg := ok.lg w (List.mem_of_getElem? hw)
    simp only [Wkr.d]
    walk_at "pw"
    refine ⟨g, n, s, t, w.lg, rfl, by omega, by omega, fun r g n s t f r0 r1 => ?_⟩
    walk_at "pw"
    refine ⟨g, n, s, t, 2, rfl, by omega, by omega, fun q g n s t f q0 q1 => ?_⟩
    walk_at "pw"
    refine h1 _ _ ⟨st ++ [(r, 1 - 2 * q)], g, n, s, t, by rw [List.map_append]; rfl, ?_, by simp [sackT, houD]⟩
    have e : h0.take (i + 1) = h0.take i ++ [w] := by rw [List.take_add_one, hw]; rfl
    rw [e]
    refine okS_snoc hok r0 r1 ?_
    show 1 - 2 * q = 1 ∨ 1 - 2 * q = -1
    omega
theorem p_law_some_home (ss : List Slot) (R : T → List Slot → Prop) (hl : ss.length = 1) (h : S_law_some_home ss R) : tf_law_some_home { nx := fun ρ => R (.d .none) (finS [0] 1 ρ), rt := fun t ρ => R t (finS [0] 1 ρ) } (ss ++ List.replicate 1 .un) := by
  obtain ⟨g, n, s, t, rfl, h⟩ := h
  simp only [tf_law_some_home, tf_law_some_home_1]
  walk_at "pw"
  refine ⟨g, n, s, t, 5, rfl, by omega, by omega, fun r g n s t f r0 r1 => ?_⟩
  walk_at "pw"
  refine ⟨g, n, s, t, 1 + r, rfl, by omega, by omega, fun ns g n s t f hns hnd hso2 => ?_⟩
  have hso : ∀ z ∈ ns, PyData.strOk z = true := fun z hz => (hso2 z hz).1
  walk_at "pw"
  refine ⟨g, n, s, t, 3, rfl, by omega, by omega, fun q g n s t f q0 q1 => ?_⟩
  walk_at "pw"
  obtain ⟨z, hz, hz1, hz2⟩ : ∃ z : Int, atI [PyData.int 4, PyData.int 9, PyData.int 60] q = some (.int z) ∧ 1 ≤ z ∧ z ≤ 60 := by
    have : q = 0 ∨ q = 1 ∨ q = 2 := by omega
    rcases this with rfl | rfl | rfl
    · exact ⟨4, atI0 _ _, by omega, by omega⟩
    · exact ⟨9, atI1 _ _ _, by omega, by omega⟩
    · exact ⟨60, atI2 _ _ _ _, by omega, by omega⟩
  rw [hz]
  walk_at "pw"
  refine ⟨g, n, s, t, z, ns, rfl, by omega, ?_, hnd, hso, hz1, hz2, fun h0 g n s t f1 f2 f3 ok hn => ?_⟩
  · intro e
    rw [e] at hns
    simp at hns
    omega
  walk_at "pw"
  refine h h0 g n s t ok ⟨fun e => ?_, fun y hy => (hso2 y (hn ▸ hy)).2⟩
  rw [e] at hn
  rw [← hn] at hns
  simp [names] at hns
  omega
theorem zipD_self : ∀ {xs : List D} {x : D}, x ∈ zipD xs xs → ∃ a ∈ xs, x = .tuple [a, a]
  | [], x, h => by unfold zipD at h; cases h
  | a :: xs, x, h => by
    unfold zipD at h
    rcases List.mem_cons.mp h with rfl | h
    · exact ⟨a, by simp, rfl⟩
    · obtain ⟨b, hb, e⟩ := zipD_self h
      exact ⟨b, by simp [hb], e⟩
theorem p_law_alike (d : Nat) (ss : List Slot) (R : T → List Slot → Prop) (hl : ss.length = 2) (h : S_law_alike (d + 1) ss R) : tf_law_alike d { nx := fun ρ => R (.d .none) (finS [] 2 ρ), rt := fun t ρ => R t (finS [] 2 ρ) } (ss ++ List.replicate 2 .un) := by
  obtain ⟨x, rfl, ha, h⟩ := h
  have seq : ∀ (xs : List D) (Q : List D → List Slot → Prop) (ρ : List Slot), xs.length ≤ sizeLine → (∀ x ∈ xs, Alk d x) → ρ.length = 4 → (∃ a b, ρ = [a, b, .un, .un]) → Q ((xs.map fun _ => true).map PyData.bool) ρ →
      lpC [2, 3] (gTp 2 (gC (gNm 2) (gC (gNm 3) (gN)))) tYesF (fCall (S_law_alike d) [.v, .v] [] (fCons (fVar 2) (fCons (fVar 3) fNil))) (zipD xs xs) [] ρ Q := by
    rintro xs Q _ hz hal _ ⟨a, b, rfl⟩ hQ
    refine lpC_map (fun _ => .bool true) (by rw [zipD_length]; omega) ?_ ?_
    · have e : (zipD xs xs).map (fun _ => PyData.bool true) = (xs.map fun _ => true).map PyData.bool := by
        refine List.ext_getElem (by simp [zipD_length]) fun i h1 h2 => by simp
      rw [e]
      exact hQ
    · intro x k1 hx hk
      obtain ⟨c, hc, rfl⟩ := zipD_self hx
      walk_at "pw"
      refine ⟨c, rfl, hal c hc, fun fin => ?_⟩
      walk_at "pw"
      exact hk
  have allT : ∀ xs : List D, ((xs.map fun _ => true).all id) = true := fun xs => by simp
  cases x with
  | int i =>
    simp only [tf_law_alike]
    walk_at "pw"
    simp
    exact h _
  | bool b =>
    simp only [tf_law_alike]
    walk_at "pw"
    simp
    exact h _
  | str z =>
    simp only [tf_law_alike]
    walk_at "pw"
    simp
    exact h _
  | none => exact (show False from ha).elim
  | dict _ => exact (show False from ha).elim
  | tuple xs =>
    simp only [tf_law_alike]
    walk_at "pw"
    simp
    refine seq xs _ _ ha.1 ha.2 rfl ⟨_, _, rfl⟩ ⟨_, _, rfl, rfl, ?_⟩
    rw [allT]
    exact h _
  | list xs =>
    simp only [tf_law_alike]
    walk_at "pw"
    simp
    refine seq xs _ _ ha.1 ha.2 rfl ⟨_, _, rfl⟩ ⟨_, _, rfl, rfl, ?_⟩
    rw [allT]
    exact h _
/-! ### the mathematics: tellings, one by one and counted -/
theorem turnd_turnd (a b : List Str) : ∀ (h : List Wkr) (s : Stg), turnd a h (turnd b h s) = (h.zip s).map fun q => (q.2.1, if q.1.nm ∈ a then -(if q.1.nm ∈ b then -q.2.2 else q.2.2) else (if q.1.nm ∈ b then -q.2.2 else q.2.2))
  | [], s => by simp [turnd]
  | w :: h, [] => by simp [turnd]
  | w :: h, p :: s => by
    have ih := turnd_turnd a b h s
    simp only [turnd, List.zip_cons_cons, List.map_cons, ih]
theorem turnd_map (a : List Str) : ∀ (h : List Wkr) (s : Stg), turnd a h s = (h.zip s).map fun q => (q.2.1, if q.1.nm ∈ a then -q.2.2 else q.2.2)
  | [], s => by simp [turnd]
  | w :: h, [] => by simp [turnd]
  | w :: h, p :: s => by
    have ih := turnd_map a h s
    simp only [turnd, List.zip_cons_cons, List.map_cons, ih]
theorem count_one {α : Type} [BEq α] [LawfulBEq α] {a : α} : ∀ {l : List α}, l.Nodup → a ∈ l → l.count a = 1
  | [], _, h => by cases h
  | b :: l, nd, h => by
    rw [List.nodup_cons] at nd
    rw [List.count_cons]
    by_cases e : b = a
    · subst e
      rw [List.count_eq_zero_of_not_mem nd.1]
      simp
    · rcases List.mem_cons.mp h with z | z
      · exact (e z.symm).elim
      · rw [count_one nd.2 z]
        simp [e]
/-- how often a name is told -/
def tells (n : Str) (bs : List Bel) : Nat := (bs.flatMap Bel.to).count n
theorem rungL_map : ∀ (bs : List Bel), (∀ b ∈ bs, b.to.Nodup) → ∀ (h : List Wkr) (s : Stg), s.length = h.length → rungL h bs s = (h.zip s).map fun q => (q.2.1, if tells q.1.nm bs % 2 = 1 then -q.2.2 else q.2.2)
  | [], _, h, s, e => by
    show s = _
    simp only [tells, List.flatMap_nil, List.count_nil]
    have : ∀ (h : List Wkr) (s : Stg), s.length = h.length → s = (h.zip s).map fun q => (q.2.1, q.2.2) := by
      intro h
      induction h with
      | nil => intro s e; cases s with
        | nil => rfl
        | cons _ _ => simp at e
      | cons w h ih => intro s e; cases s with
        | nil => simp at e
        | cons p s =>
          rw [List.zip_cons_cons, List.map_cons, ← ih s (by simpa using e)]
    simpa using this h s e
  | b :: bs, hb, h, s, e => by
    show rungL h bs (turnd b.to h s) = _
    rw [rungL_map bs (fun c hc => hb c (by simp [hc])) h _ (turnd_length _ h s e)]
    have hnd := hb b (by simp)
    have key : ∀ (h : List Wkr) (s : Stg), s.length = h.length → ((h.zip (turnd b.to h s)).map fun q => (q.2.1, if tells q.1.nm bs % 2 = 1 then -q.2.2 else q.2.2)) = (h.zip s).map fun q => (q.2.1, if tells q.1.nm (b :: bs) % 2 = 1 then -q.2.2 else q.2.2) := by
      intro h
      induction h with
      | nil => intro s e; simp
      | cons w h ih => intro s e; cases s with
        | nil => simp at e
        | cons p s =>
          simp only [turnd, List.zip_cons_cons, List.map_cons]
          rw [ih s (by simpa using e)]
          congr 1
          have ht : tells w.nm (b :: bs) = b.to.count w.nm + tells w.nm bs := by unfold tells; rw [List.flatMap_cons, List.count_append]
          rw [ht]
          by_cases hm : w.nm ∈ b.to
          · rw [count_one hnd hm, if_pos hm]
            by_cases h2 : tells w.nm bs % 2 = 1
            · rw [if_pos h2, if_neg (by omega), Int.neg_neg]
            · rw [if_neg h2, if_pos (by omega)]
          · rw [List.count_eq_zero_of_not_mem hm, if_neg hm, Nat.zero_add]
    exact key h s e
theorem rung_same {h : List Wkr} {s : Stg} (ok : OkH h) (e : s.length = h.length) : rungL h (here h s) s = rungM h s := by
  rw [rungL_map (here h s) (fun b hb => by obtain ⟨w, hw, hb⟩ := here_mem hb; exact (ok.to w hw b hb).2.1) h s e]
  unfold rungM
  rw [turnd_map]
  refine List.map_congr_left fun q hq => ?_
  have hw : q.1 ∈ h := (List.of_mem_zip hq).1
  have : q.1.nm ∈ oddly h s ↔ tells q.1.nm (here h s) % 2 = 1 := by
    unfold oddly
    rw [List.mem_filter]
    constructor
    · intro z; simpa [tells] using z.2
    · intro z; exact ⟨List.mem_map.mpr ⟨_, hw, rfl⟩, by simpa [tells] using z⟩
  by_cases z : tells q.1.nm (here h s) % 2 = 1
  · rw [if_pos z, if_pos (this.mpr z)]
  · rw [if_neg z, if_neg fun y => z (this.mp y)]
/-! ### mirrors -/
theorem here_turnd (a : List Str) : ∀ (h : List Wkr) (s : Stg), here h (turnd a h s) = here h s
  | [], s => by simp [here, turnd]
  | w :: h, [] => by simp [here, turnd]
  | w :: h, p :: s => by simp only [turnd, here, here_turnd a h s]
theorem oddly_turnd (a : List Str) (h : List Wkr) (s : Stg) : oddly h (turnd a h s) = oddly h s := by unfold oddly; rw [here_turnd]
theorem here_mir (h : List Wkr) (s : Stg) : here h (mirM h s) = here h s := by unfold mirM rungM; rw [here_turnd, here_turnd]
theorem mir_mir {h : List Wkr} : ∀ {s : Stg}, s.length = h.length → mirM h (mirM h s) = s := by
  intro s e
  unfold mirM rungM
  rw [oddly_turnd, oddly_turnd]
  have go : ∀ (a b : List Str) (h : List Wkr) (s : Stg), s.length = h.length → turnd a h (turnd b h (turnd a h (turnd b h s))) = s := by
    intro a b h
    induction h with
    | nil => intro s e; cases s with
      | nil => rfl
      | cons _ _ => simp at e
    | cons w h ih => intro s e; cases s with
      | nil => simp at e
      | cons p s =>
        simp only [turnd, ih s (by simpa using e)]
        congr 1
        refine Prod.ext rfl ?_
        show _ = p.2
        dsimp only
        by_cases h1 : w.nm ∈ a <;> by_cases h2 : w.nm ∈ b <;> simp [h1, h2]
  exact go _ _ h s e
/-! ### data compared with itself -/
theorem eqv_ints (i : Int) : PyData.eqv (.int i) (.int i) = true := by simp [PyData.eqv]
theorem eqvAll_pos : ∀ s : Stg, PyData.eqvAll (s.map posD) (s.map posD) = true
  | [] => rfl
  | p :: s => by
    rw [List.map_cons]
    unfold PyData.eqvAll
    rw [eqvAll_pos s]
    simp [posD, PyData.eqv, PyData.eqvAll]
theorem eqv_st (s : Stg) : PyData.eqv (stD s) (stD s) = true := by unfold stD PyData.eqv; exact eqvAll_pos s
theorem eqvAll_str : ∀ s : List Str, PyData.eqvAll (s.map PyData.str) (s.map PyData.str) = true
  | [] => rfl
  | z :: s => by
    rw [List.map_cons]
    unfold PyData.eqvAll
    rw [eqvAll_str s]
    simp [PyData.eqv]
theorem eqv_strs (s : List Str) : PyData.eqv (strsD s) (strsD s) = true := by unfold strsD PyData.eqv; exact eqvAll_str s
theorem alk_st {s : Stg} (h : s.length ≤ 64) : Alk 6 (stD s) := by
  refine ⟨by rw [List.length_map, sizeLine_eq]; omega, fun x hx => ?_⟩
  obtain ⟨p, hp, rfl⟩ := List.mem_map.mp hx
  refine ⟨by rw [sizeLine_eq]; simp, fun y hy => ?_⟩
  have : y = .int p.1 ∨ y = .int p.2 := by simpa using hy
  rcases this with rfl | rfl <;> exact True.intro
theorem canLay_pos : ∀ s : Stg, PyData.canLayAll0 (s.map posD) = true
  | [] => rfl
  | p :: s => by rw [List.map_cons]; unfold PyData.canLayAll0; rw [canLay_pos s]; rfl
theorem canLay_str : ∀ s : List Str, (∀ z ∈ s, PyData.strOk z = true) → PyData.canLayAll0 (s.map PyData.str) = true
  | [], _ => rfl
  | z :: s, h => by rw [List.map_cons]; unfold PyData.canLayAll0; rw [canLay_str s fun y hy => h y (by simp [hy])]; simp [PyData.canLay0, h z (by simp)]
theorem depth_pos : ∀ s : Stg, PyData.depthAll (s.map posD) ≤ 1
  | [] => by simp [PyData.depthAll]
  | p :: s => by
    have := depth_pos s
    simp only [List.map_cons, PyData.depthAll, PyData.depth, posD]
    omega
theorem depth_str : ∀ s : List Str, PyData.depthAll (s.map PyData.str) ≤ 0
  | [] => by simp [PyData.depthAll]
  | p :: s => by
    have := depth_str s
    simp only [List.map_cons, PyData.depthAll, PyData.depth]
    omega
theorem shaped_st (s : Stg) : SeqAt.shaped (stD s) = true := by
  have h2 : PyData.depth (stD s) ≤ 64 := by have := depth_pos s; unfold stD; simp only [PyData.depth]; omega
  show (PyData.canLay0 (stD s) && decide (PyData.depth (stD s) ≤ 64)) = true
  rw [Bool.and_eq_true]
  exact ⟨by unfold stD; simp only [PyData.canLay0]; exact canLay_pos s, decide_eq_true h2⟩
theorem shaped_strs {s : List Str} (h : ∀ z ∈ s, PyData.strOk z = true) : SeqAt.shaped (strsD s) = true := by
  have h2 : PyData.depth (strsD s) ≤ 64 := by have := depth_str s; unfold strsD; simp only [PyData.depth]; omega
  show (PyData.canLay0 (strsD s) && decide (PyData.depth (strsD s) ≤ 64)) = true
  rw [Bool.and_eq_true]
  exact ⟨by unfold strsD; simp only [PyData.canLay0]; exact canLay_str s h, decide_eq_true h2⟩
theorem sounds_ok {h : List Wkr} {s : Stg} (ok : OkH h) : ∀ z ∈ soundsOf (here h s), PyData.strOk z = true := fun z hz => by
  unfold soundsOf at hz
  obtain ⟨b, hb, rfl⟩ := List.mem_map.mp (List.mem_filter.mp hz).1
  obtain ⟨w, hw, hb⟩ := here_mem hb
  exact ok.so w hw b hb
end PW
end HmP
section HmN
set_option maxRecDepth 100000
set_option maxHeartbeats 1000000
/-! HmN: names and homes that the sack gives. -/
namespace PW
open PySem L2
open PyProof.Rows hiding St
local macro_rules | `(tactic| walk_at "pw") => `(tactic| simp only [sTupN, sPar3, setO, sSetK, fGetK, fNeK, fPopK, fDk, valsO, fCallK, fCat, fPerm, fLenA, dsO, pmD, vals, fIsi2, iZip, iEnu, iStrF, gHd, itsOf, fStr1, fLs, mPop, mPopAt, mExt, fAsI, oS00, oS01, oS10, oS11, oRev, cutT, oDivW, oCatS, oCatT, oRepL, oIsN, oNotN, isN, oAbs, fCh, fOfT, fIfE, oEqD, oNeD, dOf, lk_great, lk_now, lk_seed, lk_turn, pt_now, pt_seed, pt_turn, rp_great, sack_len, sackT, houD, stD, strsD, List.length_append, bCons, bNil, bKill, killS, sAsg, sRet, sIf, sDrop, sPar, sFor, fCall, pass, fLc, iRg1, iRg2, iLst, iTup, iEnumL, seqOf, tYesF, ownsOf, putBack, keepD, gTp, gC, gN, fOp, fCons, fNil, fVar, fBor, fCst, fMv, fFrz, fFz, withR, gNm, fTest, fNot, fOr, fAnd, fAndV, fOrV, fIsi, tyOf, Ty.isi, oAdd, oSub, oMul, oDiv, oMod, oPow, oNeg, oCmp, oEqS, oNeS, oTup, oLst, datas, oLen, oIx, oInt, oMax2, oMin2, oCatL, sSubL, fMut, mApp, CDiv, CMul, CPow, List.replicate, List.cons_append, List.nil_append, List.getElem?_cons_zero, List.getElem?_cons_succ, List.getD_cons_zero, List.getD_cons_succ, List.set_cons_zero, List.set_cons_succ, List.length_cons, List.length_nil, List.length_map, sizeLine_eq, Nat.reduceAdd, Nat.reduceLeDiff, Nat.reduceLT, true_and, and_true, true_or, or_true, and_self, Bool.false_eq_true, if_true, if_false, decide_eq_true_eq, atI0, atI1, atI2, at_pick, ixN, Option.bind_some, Int.reduceLE, Int.reduceLT, Int.reduceNeg, Int.reduceToNat, Int.reduceAdd, Int.reducePow, Int.reduceMul, Int.reduceAbs, Nat.reducePow, Int.cast_ofNat_Int, Int.toNat_zero, Int.toNat_one, ↓reduceIte, Std.le_refl, List.map_nil, List.append_nil, List.tail_cons, List.headD_cons, List.take_succ_cons, List.take_zero, List.take_nil])
def ltrs : Str := "abcdefghijklmnopqrstuvwxyz"
theorem ltrs_len : ltrs.cps.toList.length = 26 := by decide +kernel
theorem ltrs_nd : ltrs.cps.toList.Nodup := by decide +kernel
theorem ltrs_lt : ∀ c ∈ ltrs.cps.toList, c < 0x110000 := by decide +kernel
def cL (i : Nat) : Nat := ltrs.cps.toList.getD i 0
theorem cL_at {i : Int} (h0 : 0 ≤ i) (h1 : i < 26) : atI ltrs.cps.toList i = some (cL i.toNat) := by
  have hl : i.toNat < ltrs.cps.toList.length := by rw [ltrs_len]; omega
  refine atI_of h0 ?_
  unfold cL
  rw [List.getD_eq_getElem?_getD, List.getElem?_eq_getElem hl]
  rfl
theorem cL_lt {i : Nat} (h : i < 26) : cL i < 0x110000 := by
  have hl : i < ltrs.cps.toList.length := by rw [ltrs_len]; exact h
  unfold cL
  rw [List.getD_eq_getElem?_getD, List.getElem?_eq_getElem hl]
  exact ltrs_lt _ (List.getElem_mem hl)
theorem cL_inj0 : ∀ i j : Fin 26, cL i = cL j → i = j := by decide +kernel
theorem cL_inj {i j : Nat} (hi : i < 26) (hj : j < 26) (h : cL i = cL j) : i = j := congrArg Fin.val (cL_inj0 ⟨i, hi⟩ ⟨j, hj⟩ h)
theorem len1_sum : ∀ {zs : List Str}, (∀ z ∈ zs, z.length = 1) → (zs.map (·.length)).sum = zs.length
  | [], _ => rfl
  | z :: zs, h => by
    rw [List.map_cons, List.sum_cons, h z (by simp), len1_sum fun y hy => h y (by simp [hy]), List.length_cons, Nat.add_comm]
theorem join_nil_cons (x : Str) : ∀ l : List Str, Str.join "" (x :: l) = x ++ Str.join "" l
  | [] => (Str.append_empty x).symm
  | y :: l => by
    show x ++ "" ++ Str.join "" (y :: l) = _
    rw [show ("" : Str) = Str.empty from rfl, Str.append_empty]
theorem join_cps : ∀ l : List Str, (Str.join "" l).cps.toList = l.flatMap fun z => z.cps.toList
  | [] => rfl
  | x :: l => by
    rw [join_nil_cons, Str.cps_append, Array.toList_append, join_cps l, List.flatMap_cons]
theorem txt_join (l : List Str) : (Txt.join "" l).cps.toList = l.flatMap fun z => z.cps.toList := by
  rw [← join_cps]
  show (Builtin.Str.glued "" l).cps.toList = _
  rw [StrLaws.glued_eq_join]
theorem flat1 : ∀ {zs : List Str}, (∀ z ∈ zs, z.length = 1) → (zs.flatMap fun z => z.cps.toList).length = zs.length
  | [], _ => rfl
  | z :: zs, h => by
    have hz : z.cps.toList.length = 1 := by have := h z (by simp); simpa [Str.length] using this
    rw [List.flatMap_cons, List.length_append, hz, flat1 fun y hy => h y (by simp [hy]), List.length_cons, Nat.add_comm]
theorem okL {z : Str} : PyData.strOk z = true ↔ ∀ c ∈ z.cps.toList, c < 0x110000 := by
  unfold PyData.strOk
  rw [Array.all_eq_true_iff_forall_mem]
  simp
theorem nmL_len (A B : List Nat) (c : Nat → Nat) (k : Nat) : (nmL A B c k).length ≤ A.length + B.length + 2 := by
  unfold nmL
  split <;> simp only [List.length_append, List.length_singleton] <;> omega
theorem snoc_all {zs : List Str} {P : Nat → Str → Prop} {k : Nat} {w : Str} (hl : zs.length = k) (h : ∀ i z, zs[i]? = some z → P i z) (hw : P k w) : ∀ i z, (zs ++ [w])[i]? = some z → P i z := by
  intro i z hz
  rcases Nat.lt_or_ge i zs.length with y | y
  · rw [List.getElem?_append_left y] at hz
    exact h i z hz
  · rw [List.getElem?_append_right y] at hz
    rcases Nat.eq_zero_or_pos (i - zs.length) with e | e
    · rw [e] at hz
      have : i = k := by omega
      subst this
      simp at hz
      subst hz
      exact hw
    · have : (i - zs.length) = (i - zs.length - 1) + 1 := by omega
      rw [this] at hz
      simp at hz
theorem perm_strs {xs : List D} {ys : List Str} (h : xs.Perm (ys.map .str)) : ∃ us : List Str, xs = us.map .str := by
  have : ∀ x ∈ xs, ∃ u, x = PyData.str u := fun x hx => by
    obtain ⟨u, _, e⟩ := List.mem_map.mp (h.subset hx)
    exact ⟨u, e.symm⟩
  clear h
  induction xs with
  | nil => exact ⟨[], rfl⟩
  | cons x xs ih =>
    obtain ⟨u, rfl⟩ := this x (by simp)
    obtain ⟨us, rfl⟩ := ih fun y hy => this y (by simp [hy])
    exact ⟨u :: us, rfl⟩
theorem perm_of_map_str {xs ys : List Str} (h : (xs.map PyData.str).Perm (ys.map PyData.str)) : xs.Perm ys := by
  have := h.map (fun d => match d with | .str z => z | _ => "")
  simpa [List.map_map, Function.comp_def] using this
theorem nodup_set {α : Type} {w : α} : ∀ {zs : List α} {i : Nat}, zs.Nodup → w ∉ zs → (zs.set i w).Nodup
  | [], _, _, _ => by simp
  | z :: zs, 0, h, hw => by
    rw [List.set_cons_zero, List.nodup_cons]
    exact ⟨fun y => hw (by simp [y]), (List.nodup_cons.mp h).2⟩
  | z :: zs, i + 1, h, hw => by
    have h := List.nodup_cons.mp h
    rw [List.set_cons_succ, List.nodup_cons]
    refine ⟨fun y => ?_, nodup_set h.2 fun y => hw (by simp [y])⟩
    rcases List.mem_or_eq_of_mem_set y with y | y
    · exact h.1 y
    · exact hw (by simp [y])
theorem p_law_names_b (R : T → List Slot → Prop) (m : Int) (m1 : 1 ≤ m) (m2 : m ≤ 26)
    (h : ∀ (ns : List Str) g' n' s' t' f, ns.length = m.toNat → ns.Nodup → (∀ z ∈ ns, PyData.strOk z = true ∧ z.length ≤ 10) → R (.ls (ns.map .str)) [.own (sackT g' n' s' t'), f])
    (stem : Str) (hL : stem.length ≤ 4) (hO : PyData.strOk stem = true) (g : List Int) (n s t : Int) :
    tf_law_names_7 { nx := fun ρ => R (.d .none) (finS [0] 2 ρ), rt := fun t ρ => R t (finS [0] 2 ρ) } [.own (sackT g n s t), .own (.d (.int m)), .own (.d (.str stem)), .un, .un, .own (.d (.str ltrs)), .own (.ls []), .un, .un, .un] := by
  simp only [tf_law_names_7]
  walk_at "pw"
  refine ⟨by omega, g, n, s, t, _, rfl, by omega, by omega, fun a g n s t f a0 a1 => ?_⟩
  walk_at "pw"
  refine ⟨g, n, s, t, 26, rfl, by omega, by omega, fun b g n s t f b0 b1 => ?_⟩
  simp only [tf_law_names_6]
  walk_at "pw"
  refine ⟨by omega, ?_⟩
  let A := (cutS stem none (some a)).cps.toList
  let B := (cutS stem (some a) none).cps.toList
  let cc : Nat → Nat := fun k => cL ((b + 7 * (k : Int)) % 26).toNat
  refine lp_at (fun i ρ => ∃ zs : List Str, zs.length = i ∧ (∀ k z, zs[k]? = some z → z.cps.toList = nmL A B cc k) ∧ ρ = [.own (sackT g n s t), .own (.d (.int m)), .own (.d (.str stem)), .un, .un, .own (.d (.str ltrs)), .own (.ls (zs.map .str)), .own (.d (.int a)), .own (.d (.int b)), .un]) ⟨[], rfl, by simp, rfl⟩ ?_ ?_
  · rintro ρ ⟨zs, hzl, hz, rfl⟩
    rw [upto_length] at hzl
    simp only [tf_law_names_5]
    walk_at "pw"
    refine ⟨g, n, s, t, 6, rfl, by omega, by omega, fun q g n s t f q0 q1 => ?_⟩
    obtain ⟨w, hw, hwo⟩ : ∃ w : Str, atI [PyData.str "walker", .str "bell", .str "beats", .str "turn", .str "ring", .str "undo"] q = some (.str w) ∧ PyData.strOk w = true ∧ w.length ≤ 10 := by
      have : q = 0 ∨ q = 1 ∨ q = 2 ∨ q = 3 ∨ q = 4 ∨ q = 5 := by omega
      rcases this with rfl | rfl | rfl | rfl | rfl | rfl
      · exact ⟨"walker", rfl, by decide +kernel, by decide⟩
      · exact ⟨"bell", rfl, by decide +kernel, by decide⟩
      · exact ⟨"beats", rfl, by decide +kernel, by decide⟩
      · exact ⟨"turn", rfl, by decide +kernel, by decide⟩
      · exact ⟨"ring", rfl, by decide +kernel, by decide⟩
      · exact ⟨"undo", rfl, by decide +kernel, by decide⟩
    walk_at "pw"
    rw [hw]
    have hcc : ∀ i j, i < 26 → j < 26 → cc i = cc j → i = j := fun i j hi hj e => by
      have := cL_inj (i := ((b + 7 * (i : Int)) % 26).toNat) (j := ((b + 7 * (j : Int)) % 26).toNat) (by omega) (by omega) e
      omega
    have hnd : zs.Nodup := by
      unfold List.Nodup
      rw [List.pairwise_iff_getElem]
      intro i j hi hj hij e
      have h1 := hz i zs[i] (List.getElem?_eq_getElem hi)
      have h2 := hz j zs[j] (List.getElem?_eq_getElem hj)
      rw [e, h2] at h1
      have := nmL_inj (n := 26) hcc (by omega) (by omega) h1
      omega
    have hso : ∀ z ∈ zs, PyData.strOk z = true := fun z hzm => by
      obtain ⟨k, hk, rfl⟩ := List.getElem_of_mem hzm
      rw [okL, hz k _ (List.getElem?_eq_getElem hk)]
      intro c hc
      have hcut : ∀ lo hi, ∀ c ∈ (cutS stem lo hi).cps.toList, c < 0x110000 := fun lo hi c hc => by
        refine okL.mp hO c ?_
        have : c ∈ (stem.cps.toList.drop (HT.sIx stem.length 0 lo)).take (HT.sIx stem.length stem.length hi - HT.sIx stem.length 0 lo) := by simpa [cutS] using hc
        exact List.drop_subset _ _ (List.take_subset _ _ this)
      have hcl : ∀ k, cc k < 0x110000 := fun k => cL_lt (by omega)
      unfold nmL at hc
      split at hc <;> simp only [List.mem_append, List.mem_singleton] at hc
      · rcases hc with (hc | rfl) | hc
        · exact hcut _ _ c hc
        · exact hcl _
        · exact hcut _ _ c hc
      · rcases hc with ((hc | rfl) | hc) | rfl
        · exact hcut _ _ c hc
        · exact hcl _
        · exact hcut _ _ c hc
        · exact hcl _
    have hsl : ∀ z ∈ zs, PyData.strOk z = true ∧ z.length ≤ 10 := fun z hzm => by
      refine ⟨hso z hzm, ?_⟩
      obtain ⟨k, hk, rfl⟩ := List.getElem_of_mem hzm
      have e := congrArg List.length (hz k _ (List.getElem?_eq_getElem hk))
      have l2 := nmL_len A B cc k
      have lA : A.length ≤ 4 := by have := cutS_length stem none (some a); show ((cutS stem none (some a)).cps.toList).length ≤ 4; rw [Array.length_toList]; exact Nat.le_trans this hL
      have lB : B.length ≤ 4 := by have := cutS_length stem (some a) none; show ((cutS stem (some a) none).cps.toList).length ≤ 4; rw [Array.length_toList]; exact Nat.le_trans this hL
      rw [Array.length_toList] at e
      show zs[k].cps.size ≤ 10
      omega
    have fin : ∀ (ys : List Str) (g : List Int) (n s t : Int) (s2 s4 s5 s7 s8 : Slot), ys.length = m.toNat → ys.Nodup → (∀ z ∈ ys, PyData.strOk z = true ∧ z.length ≤ 10) →
        tf_law_names_3 { nx := fun ρ => R (.d .none) (finS [0] 2 ρ), rt := fun t ρ => R t (finS [0] 2 ρ) } [.own (sackT g n s t), .own (.d (.int m)), s2, .un, s4, s5, .own (.ls (ys.map .str)), s7, s8, .un] := by
      intro ys g n s t s2 s4 s5 s7 s8 yl ynd yso
      simp only [tf_law_names_3]
      walk_at "pw"
      refine ⟨g, n, s, t, _, ys.map .str, rfl, rfl, by rw [List.length_map]; omega, fun xs g n s t f hp => ?_⟩
      obtain ⟨us, rfl⟩ := perm_strs hp
      have hp2 := perm_of_map_str hp
      walk_at "pw"
      exact h us g n s t _ (by rw [hp2.length_eq, yl]) (hp2.nodup_iff.mpr ynd) fun z hz => yso z (hp2.subset hz)
    simp only [tf_law_names_4]
    walk_at "pw"
    refine ⟨g, n, s, t, 3, rfl, by omega, by omega, fun q g n s t f q0 q1 => ?_⟩
    walk_at "pw"
    refine ite2 (fun _ => .inl ⟨w, _, zs, rfl, rfl, ?_⟩) fun _ => fin zs _ _ _ _ _ _ _ _ _ hzl hnd hsl
    simp only [if_true]
    by_cases hm : w ∈ zs
    · simp only [hm, decide_true, Bool.not_true]
      exact fin zs _ _ _ _ _ _ _ _ _ hzl hnd hsl
    · simp only [hm, decide_false, Bool.not_false, if_true]
      refine ⟨g, n, s, t, m, rfl, by omega, by omega, fun u g n s t f u0 u1 => ?_⟩
      walk_at "pw"
      rw [if_pos u0, if_pos (by omega)]
      dsimp only
      rw [show (List.map PyData.str zs).set u.toNat (.str w) = (zs.set u.toNat w).map .str from (List.map_set ..).symm]
      refine fin (zs.set u.toNat w) _ _ _ _ _ _ _ _ _ (by rw [List.length_set, hzl]) (nodup_set hnd hm) fun z hzm => ?_
      rcases List.mem_or_eq_of_mem_set hzm with y | y
      · exact hsl z y
      · rw [y]; exact hwo
  · rintro k x ρ k1 hx ⟨zs, hzl, hz, rfl⟩ hk
    obtain ⟨hi, rfl⟩ := upto_at hx
    simp only [tf_law_names_2, tf_law_names_1]
    walk_at "pw"
    have hA : A.length ≤ 4 := by have := cutS_length stem none (some a); show ((cutS stem none (some a)).cps.toList).length ≤ 4; rw [Array.length_toList]; exact Nat.le_trans this hL
    have hB : B.length ≤ 4 := by have := cutS_length stem (some a) none; show ((cutS stem (some a) none).cps.toList).length ≤ 4; rw [Array.length_toList]; exact Nat.le_trans this hL
    have lA : (cutS stem none (some a)).length ≤ 4 := Nat.le_trans (cutS_length ..) hL
    have lB : (cutS stem (some a) none).length ≤ 4 := Nat.le_trans (cutS_length ..) hL
    have e0 : atI ltrs.cps.toList ((b + 7 * (0 + (k : Int))) % 26) = some (cc k) := by
      rw [Int.zero_add]
      exact cL_at (Int.emod_nonneg _ (by omega)) (Int.emod_lt_of_pos _ (by omega))
    rw [e0]
    obtain ⟨w, hw, hwl, hwv⟩ : ∃ w : Str, atI (zs.map PyData.str ++ [.str ""]) (0 + (k : Int) - 1) = some (.str w) ∧ w.length ≤ 10 ∧ (k % 2 = 1 → w.cps.toList = A ++ [cc (k - 1)] ++ B) := by
      rcases Nat.eq_zero_or_pos k with rfl | hp
      · refine ⟨"", ?_, by decide, fun h => by omega⟩
        have : zs = [] := List.eq_nil_of_length_eq_zero hzl
        subst this
        rfl
      · have hz1 : k - 1 < zs.length := by omega
        refine ⟨zs[k - 1], ?_, ?_, fun h2 => ?_⟩
        · have e : (0 + (k : Int) - 1) = ((k - 1 : Nat) : Int) := by omega
          rw [e]
          refine atI_nat ?_
          rw [List.getElem?_append_left (by rw [List.length_map]; exact hz1), List.getElem?_map, List.getElem?_eq_getElem hz1]
          rfl
        · have e := hz (k - 1) _ (List.getElem?_eq_getElem hz1)
          have l := congrArg List.length e
          rw [Array.length_toList] at l
          have l2 := nmL_len A B cc (k - 1)
          show zs[k - 1].cps.size ≤ 10
          omega
        · have e := hz (k - 1) _ (List.getElem?_eq_getElem hz1)
          rw [e]
          unfold nmL
          rw [if_pos (by omega)]
    rw [hw]
    have l1 : ({ cps := #[cc k] } : Str).length = 1 := rfl
    have lN : zs.length ≤ 26 := by omega
    refine ⟨by decide +kernel, by omega, by omega, by omega, by rw [Str.length_append]; omega, by omega, by omega, ?_⟩
    rcases Nat.mod_two_eq_zero_or_one k with e2 | e2
    · have : (0 + (k : Int)) % 2 = 0 := by omega
      rw [this, atI0]
      refine ⟨by omega, hk _ ⟨zs ++ [cutS stem none (some a) ++ { cps := #[cc k] } ++ cutS stem (some a) none], by simp [hzl], ?_, by simp [sackT]⟩⟩
      refine snoc_all hzl hz ?_
      unfold nmL
      rw [if_pos e2]
      simp only [Str.cps_append, Array.toList_append]
      rfl
    · have : (0 + (k : Int)) % 2 = 1 := by omega
      rw [this, atI1]
      refine ⟨by omega, hk _ ⟨zs ++ [w ++ { cps := #[cc k] }], by simp [hzl], ?_, by simp [sackT]⟩⟩
      refine snoc_all hzl hz ?_
      unfold nmL
      rw [if_neg (by omega)]
      simp only [Str.cps_append, Array.toList_append, hwv e2]
theorem p_law_names (ss : List Slot) (R : T → List Slot → Prop) (hl : ss.length = 2) (h : S_law_names ss R) : tf_law_names { nx := fun ρ => R (.d .none) (finS [0] 2 ρ), rt := fun t ρ => R t (finS [0] 2 ρ) } (ss ++ List.replicate 8 .un) := by
  obtain ⟨g, n, s, t, m, rfl, m1, m2, h⟩ := h
  simp only [tf_law_names, tf_law_names_8]
  walk_at "pw"
  refine ⟨g, n, s, t, 5, rfl, by omega, by omega, fun r g n s t f r0 r1 => ⟨⟨by omega, by omega⟩, ?_⟩⟩
  refine lpC_at (fun j acc ρ => ∃ (zs : List Str) (g : List Int) (n s t : Int), acc = zs.map .str ∧ (∀ z ∈ zs, z.length = 1 ∧ PyData.strOk z = true) ∧ zs.length = j ∧ ρ = [.own (sackT g n s t), .own (.d (.int m)), .un, .un, .un, .own (.d (.str ltrs)), .own (.ls []), .un, .un, .un]) ⟨[], g, n, s, t, rfl, by simp, rfl, by simp [sackT, ltrs]⟩ (by rw [upto_length, sizeLine_eq]; omega) ?_ ?_
  · rintro acc ρ ⟨zs, g, n, s, t, rfl, hz, hlen, rfl⟩
    rw [upto_length] at hlen
    walk_at "pw"
    refine ⟨_, zs, rfl, rfl, ?_, ?_⟩
    · rw [len1_sum fun z hz' => (hz z hz').1]
      have : (Str.ofString "").length = 0 := rfl
      rw [this]; omega
    have hL : (Txt.join "" zs).length ≤ 4 := by
      have e : (Txt.join "" zs).cps.toList.length = zs.length := by rw [txt_join]; exact flat1 fun z hz' => (hz z hz').1
      have e2 : (Txt.join "" zs).length = zs.length := by rw [← e]; simp [Str.length]
      rw [e2]; omega
    have hO : PyData.strOk (Txt.join "" zs) = true := by
      rw [okL, txt_join]
      intro c hc
      obtain ⟨z, hz1, hz2⟩ := List.mem_flatMap.mp hc
      exact okL.mp (hz z hz1).2 c hz2
    exact p_law_names_b R m m1 m2 h (Txt.join "" zs) hL hO _ _ _ _
  · rintro j x acc ρ k1 k2 hx ⟨zs, g, n, s, t, rfl, hz, hlen, rfl⟩ h1 h2
    obtain ⟨hj, rfl⟩ := upto_at hx
    walk_at "pw"
    refine ⟨g, n, s, t, 26, rfl, by omega, by omega, fun q g n s t f q0 q1 => ?_⟩
    walk_at "pw"
    rw [cL_at q0 q1]
    refine ⟨by decide +kernel, h1 _ _ ⟨zs ++ [⟨#[cL q.toNat]⟩], g, n, s, t, by simp, ?_, by simp [hlen], by simp [sackT]⟩⟩
    intro z hz2
    rcases List.mem_append.mp hz2 with y | y
    · exact hz z y
    · have : z = ⟨#[cL q.toNat]⟩ := by simpa using y
      subst this
      have := cL_lt (i := q.toNat) (by omega)
      exact ⟨rfl, by simp [PyData.strOk]; omega⟩
theorem cut_strs (ns : List Str) (lo hi : Option Int) : ∃ g : List Str, cutD (ns.map .str) lo hi = g.map .str ∧ g.length ≤ ns.length ∧ ∀ z ∈ g, z ∈ ns := by
  refine ⟨(ns.drop (HT.sIx ns.length 0 lo)).take (HT.sIx ns.length ns.length hi - HT.sIx ns.length 0 lo), ?_, ?_, fun z hz => List.drop_subset _ _ (List.take_subset _ _ hz)⟩
  · unfold cutD
    rw [List.length_map, List.map_take, List.map_drop]
  · rw [List.length_take, List.length_drop]; omega
structure WOk (ns : List Str) (w : Wkr) : Prop where
  lg : 1 ≤ w.lg ∧ w.lg ≤ 60
  bl : w.bl.length ≤ 64
  one : (w.bl.map Bel.pl).Nodup
  so : ∀ b ∈ w.bl, PyData.strOk b.sd = true
  to : ∀ b ∈ w.bl, b.to.length ≤ 5 ∧ b.to.Nodup ∧ ∀ n ∈ b.to, n ∈ ns
theorem enum_at {xs : List D} {i : Nat} {x : D} (h : (enumD 0 xs)[i]? = some x) : ∃ d, xs[i]? = some d ∧ x = .tuple [.int i, d] := by
  have hl := (List.getElem?_eq_some_iff.mp h).1
  rw [enumD_length] at hl
  have h1 : xs[i]? = some xs[i] := List.getElem?_eq_getElem hl
  rw [enumD_get xs 0 i _ h1, Nat.zero_add] at h
  exact ⟨_, h1, (Option.some.inj h).symm⟩
theorem names_snoc (hs : List Wkr) (w : Wkr) : names (hs ++ [w]) = names hs ++ [w.nm] := by simp [names]
theorem home_places (E : Es) (ns : List Str) (w : Int) (sds : List Str) (hs : List Wkr) (M th : Int) (i : Nat) (nm : Str) (r long : Int) (few : ns.length ≤ 5) (sok : ∀ z ∈ sds, PyData.strOk z = true) (sl1 : 5 ≤ sds.length) (sl2 : sds.length ≤ 20) (l0 : 1 ≤ long) (l1 : long ≤ 60) (nd : ns.Nodup) (t0 : 0 ≤ th) (t1 : th < 4) (hl5 : hs.length ≤ 5) (g : List Int) (n s t : Int) (s11 s15 : Slot)
    (hk : ∀ (bs : List Bel) (g : List Int) (n s t : Int) (s15 : Slot), WOk ns ⟨nm, long, bs⟩ → E.nx [.own (sackT g n s t), .own (.d (.list (ns.map .str))), .own (.d (.int w)), .own (.d (.int (10 ^ 12))), .own (.ls (sds.map .str)), .own (.ls ((hs ++ [(⟨nm, long, bs⟩ : Wkr)]).map Wkr.d)), .own (.d (.int (M * 2 * long))), .own (.d (.int (1 + th))), .un, .un, .un, .un, .un, .un, .un, s15]) :
    tf_law_home_6 E [.own (sackT g n s t), .own (.d (.list (ns.map .str))), .own (.d (.int w)), .own (.d (.int (10 ^ 12))), .own (.ls (sds.map .str)), .own (.ls (hs.map Wkr.d)), .own (.d (.int M)), .own (.d (.int (1 + th))), .own (.d (.int i)), .own (.d (.str nm)), .own (.d (.int r)), s11, .un, .own (.d (.int long)), .own (.ls []), s15] := by
  simp only [tf_law_home_6]
  walk_at "pw"
  refine ⟨by omega, ?_⟩
  refine lp_at (fun j ρ => ∃ (bs : List Bel) (g : List Int) (n s t : Int) (s11 s15 : Slot), bs.length ≤ j ∧ (bs.map Bel.pl).Nodup ∧ (∀ b ∈ bs, b.pl < j ∧ PyData.strOk b.sd = true ∧ b.to.length ≤ 5 ∧ b.to.Nodup ∧ ∀ n ∈ b.to, n ∈ ns) ∧ ρ = [.own (sackT g n s t), .own (.d (.list (ns.map .str))), .own (.d (.int w)), .own (.d (.int (10 ^ 12))), .own (.ls (sds.map .str)), .own (.ls (hs.map Wkr.d)), .own (.d (.int M)), .own (.d (.int (1 + th))), .own (.d (.int i)), .own (.d (.str nm)), .own (.d (.int r)), s11, .un, .own (.d (.int long)), .own (.ls (bs.map Bel.d)), s15]) ⟨[], g, n, s, t, _, _, by simp, by simp, by simp, rfl⟩ ?_ ?_
  · rintro ρ ⟨bs, g, n, s, t, s11, s15, hb1, hb2, hb3, rfl⟩
    rw [upto_length] at hb1 hb3
    simp only [tf_law_home_5, tf_law_home_4]
    walk_at "pw"
    refine ⟨_, _, rfl, rfl, by rw [List.length_map, sizeLine_eq]; omega, ?_⟩
    walk_at "pw"
    refine ⟨by omega, .inr (by omega), ?_⟩
    have e : List.map Wkr.d hs ++ [PyData.tuple [.str nm, .int long, .tuple (bs.map Bel.d)]] = (hs ++ [(⟨nm, long, bs⟩ : Wkr)]).map Wkr.d := by rw [List.map_append]; rfl
    rw [e]
    exact hk bs g n s t s15 ⟨⟨l0, l1⟩, by show bs.length ≤ 64; omega, hb2, fun b hb => (hb3 b hb).2.1, fun b hb => (hb3 b hb).2.2⟩
  · rintro j x ρ k1 hx ⟨bs, g, n, s, t, s11, s15, hb1, hb2, hb3, rfl⟩ hk1
    obtain ⟨hj, rfl⟩ := upto_at hx
    simp only [tf_law_home_3, tf_law_home_2]
    walk_at "pw"
    refine ⟨g, n, s, t, 1 + th, rfl, by omega, by omega, fun q g n s t f q0 q1 => ?_⟩
    walk_at "pw"
    refine ite2 (fun _ => ?_) fun _ => hk1 _ ⟨bs, g, n, s, t, s11, s15, by omega, hb2, fun b hb => ⟨by have := (hb3 b hb).1; omega, (hb3 b hb).2⟩, rfl⟩
    refine lpC_at (fun u acc ρ => ∃ (us : List Str) (g : List Int) (n s t : Int), acc = us.map .str ∧ us.Sublist (ns.take u) ∧ ρ = [.own (sackT g n s t), .own (.d (.list (ns.map .str))), .own (.d (.int w)), .own (.d (.int (10 ^ 12))), .own (.ls (sds.map .str)), .own (.ls (hs.map Wkr.d)), .own (.d (.int M)), .own (.d (.int (1 + th))), .own (.d (.int i)), .own (.d (.str nm)), .own (.d (.int r)), .un, .own (.d (.int (0 + j))), .own (.d (.int long)), .own (.ls (bs.map Bel.d)), s15]) ⟨[], g, n, s, t, rfl, by simp, rfl⟩ (by rw [List.length_map, sizeLine_eq]; omega) ?_ ?_
    · rintro acc ρ ⟨us, g, n, s, t, rfl, hsub, rfl⟩
      have hsub := hsub.trans (List.take_sublist _ _)
      have hul := hsub.length_le
      walk_at "pw"
      refine ⟨_, _, rfl, rfl, by rw [List.length_map, sizeLine_eq]; omega, ?_⟩
      walk_at "pw"
      refine ⟨g, n, s, t, sds.length, rfl, by omega, by omega, fun q g n s t f q0 q1 => ?_⟩
      walk_at "pw"
      have hq : q.toNat < sds.length := by omega
      have e1 : atI (sds.map PyData.str) q = some (.str sds[q.toNat]) := atI_of q0 (by rw [List.getElem?_map, List.getElem?_eq_getElem hq]; rfl)
      rw [e1]
      walk_at "pw"
      refine ⟨by omega, hk1 _ ⟨bs ++ [⟨0 + j, sds[q.toNat], us⟩], g, n, s, t, (match s11 with | .own (.d x) => .own (.d x) | _ => .un), .own (.d (.tuple (us.map .str))), by simp; omega, ?_, ?_, ?_⟩⟩
      · rw [List.map_append, List.nodup_append]
        refine ⟨hb2, by simp, fun x hx y hy => ?_⟩
        have : y = 0 + (j : Int) := by simpa using hy
        obtain ⟨b, hb, rfl⟩ := List.mem_map.mp hx
        have := (hb3 b hb).1
        omega
      · intro b hb
        rcases List.mem_append.mp hb with y | y
        · exact ⟨by have := (hb3 b y).1; omega, (hb3 b y).2⟩
        · have : b = ⟨0 + j, sds[q.toNat], us⟩ := by simpa using y
          subst this
          exact ⟨by show (0 : Int) + j < _; omega, sok _ (List.getElem_mem hq), by show us.length ≤ 5; omega, hsub.nodup nd, fun n hn => hsub.subset hn⟩
      · simp [sackT, Bel.d, strsD]
        all_goals
          cases s11 with
          | un => rfl
          | own u => cases u <;> rfl
          | hid u => rfl
    · rintro u x acc ρ k1 k2 hx2 ⟨us, g, n, s, t, rfl, hsub, rfl⟩ h1 h2
      obtain ⟨z, hz, rfl⟩ := map_at hx2
      walk_at "pw"
      refine ⟨g, n, s, t, 2, rfl, by omega, by omega, fun q g n s t f q0 q1 => ?_⟩
      walk_at "pw"
      have e : ns.take (u + 1) = ns.take u ++ [z] := by rw [List.take_add_one, hz]; rfl
      refine ite2 (fun _ => h1 _ _ ⟨us ++ [z], g, n, s, t, by simp, by rw [e]; exact hsub.append (List.Sublist.refl _), rfl⟩) fun _ => h2 _ ⟨us, g, n, s, t, rfl, by rw [e]; exact hsub.trans (List.sublist_append_left _ _), rfl⟩
theorem p_law_home (ss : List Slot) (R : T → List Slot → Prop) (hl : ss.length = 4) (h : S_law_home ss R) : tf_law_home { nx := fun ρ => R (.d .none) (finS [0] 4 ρ), rt := fun t ρ => R t (finS [0] 4 ρ) } (ss ++ List.replicate 12 .un) := by
  obtain ⟨g, n, s, t, w, ns, rfl, few, ne, nd, so, w0, w1, h⟩ := h
  simp only [tf_law_home]
  walk_at "pw"
  refine ⟨g, n, s, t, 4, rfl, by omega, by omega, fun th g n s t f t0 t1 => ?_⟩
  simp only [tf_law_home_10]
  walk_at "pw"
  refine ⟨g, n, s, t, 3, rfl, by omega, by omega, fun zs g n s t f hz hznd hzo => ?_⟩
  walk_at "pw"
  obtain ⟨cs, hcs, hcl, hcm⟩ := cut_strs ns none (some 1)
  rw [hcs]
  have hz3 : zs.length = 3 := hz
  refine ⟨by omega, _, _, rfl, rfl, ?_⟩
  walk_at "pw"
  refine ⟨by omega, ?_⟩
  have e : PyData.str (Str.ofString "") :: PyData.str (Str.ofString "") :: (List.map PyData.str zs ++ List.map PyData.str cs) = ("" :: "" :: (zs ++ cs) : List Str).map .str := by
    rw [List.map_cons, List.map_cons, List.map_append]
  rw [e]
  have sok : ∀ z ∈ ("" :: "" :: (zs ++ cs) : List Str), PyData.strOk z = true := by
    intro z hz'
    simp only [List.mem_cons, List.mem_append] at hz'
    rcases hz' with rfl | rfl | y | y
    · decide +kernel
    · decide +kernel
    · exact (hzo z y).1
    · exact so z (hcm z y)
  have sl1 : 5 ≤ ("" :: "" :: (zs ++ cs) : List Str).length := by simp only [List.length_cons, List.length_append]; omega
  have sl2 : ("" :: "" :: (zs ++ cs) : List Str).length ≤ 20 := by simp only [List.length_cons, List.length_append]; omega
  generalize ("" :: "" :: (zs ++ cs) : List Str) = sds at sok sl1 sl2
  simp only [tf_law_home_9]
  walk_at "pw"
  refine lp_at (fun i ρ => ∃ (hs : List Wkr) (M : Int) (g : List Int) (n s t : Int) (s15 : Slot), names hs = ns.take i ∧ (∀ w ∈ hs, WOk ns w) ∧ 0 < M ∧ M ≤ 120 ^ i ∧ ρ = [.own (sackT g n s t), .own (.d (.list (ns.map .str))), .own (.d (.int w)), .own (.d (.int (10 ^ 12))), .own (.ls (sds.map .str)), .own (.ls (hs.map Wkr.d)), .own (.d (.int M)), .own (.d (.int (1 + th))), .un, .un, .un, .un, .un, .un, .un, s15]) ⟨[], 1, g, n, s, t, _, by simp [names], by simp, by omega, by simp, rfl⟩ ?_ ?_
  · rintro ρ ⟨hs, M, g, n, s, t, s15, hnm, hok, M0, M1, rfl⟩
    walk_at "pw"
    rw [enumD_length, List.length_map, List.take_length] at hnm
    have hn2 : hs.length = ns.length := by rw [← hnm, names_length]
    refine ⟨_, _, rfl, rfl, by rw [List.length_map, sizeLine_eq]; omega, h hs g n s t _ _ _ ?_ hnm⟩
    exact ⟨by omega, by rw [hnm]; exact nd, fun w hw => (hok w hw).lg, fun w hw => (hok w hw).bl, fun w hw => (hok w hw).one, fun w hw => (hok w hw).so, fun w hw b hb => by rw [hnm]; exact (hok w hw).to b hb, by rw [hnm]; exact so⟩
  · rintro i x ρ k1 hx ⟨hs, M, g, n, s, t, s15, hnm, hok, M0, M1, rfl⟩ hk
    obtain ⟨nm, hnmi, rfl⟩ : ∃ nm, ns[i]? = some nm ∧ x = .tuple [.int i, .str nm] := by
      obtain ⟨d, h1, h2⟩ := enum_at hx
      obtain ⟨nm, h3, rfl⟩ := map_at h1
      exact ⟨nm, h3, h2⟩
    have hi : i < ns.length := (List.getElem?_eq_some_iff.mp hnmi).1
    simp only [tf_law_home_8]
    walk_at "pw"
    obtain ⟨ws, hws, hwl, hwm⟩ := cut_strs ns (some (i : Int)) none
    rw [hws]
    refine lp_at (fun j ρ => ∃ (r : Int) (s11 : Slot), 0 < r ∧ r ≤ 120 ^ i * 2 ^ j ∧ ρ = [.own (sackT g n s t), .own (.d (.list (ns.map .str))), .own (.d (.int w)), .own (.d (.int (10 ^ 12))), .own (.ls (sds.map .str)), .own (.ls (hs.map Wkr.d)), .own (.d (.int M)), .own (.d (.int (1 + th))), .own (.d (.int i)), .own (.d (.str nm)), .own (.d (.int r)), s11, .un, .un, .un, s15]) ⟨M, _, M0, by simpa using M1, rfl⟩ ?_ ?_
    · rintro ρ ⟨r, s11, r0, r1, rfl⟩
      simp only [tf_law_home_7]
      walk_at "pw"
      have hr : r ≤ 120 ^ 5 * 2 ^ 5 := by
        refine Int.le_trans r1 (Int.mul_le_mul ?_ ?_ (by exact Int.le_of_lt (Int.pow_pos (by omega))) (by exact Int.le_of_lt (Int.pow_pos (by omega))))
        · exact_mod_cast Nat.pow_le_pow_right (show 0 < 120 by omega) (show i ≤ 5 by omega)
        · rw [List.length_map]
          exact_mod_cast Nat.pow_le_pow_right (show 0 < 2 by omega) (show ws.length ≤ 5 by omega)
      have hdw : CDivW 1000000000000 r := by
        refine ⟨r0, ?_⟩
        have e : ((120 : Int) ^ 5 * 2 ^ 5) = 796262400000 := by decide
        rw [e] at hr
        have h2 : r.natAbs < 2 ^ 60 := by
          have : (2 : Nat) ^ 60 = 1152921504606846976 := by decide
          omega
        rw [Nat.log2_lt (by omega)]
        exact Nat.lt_of_lt_of_le h2 (Nat.pow_le_pow_right (by omega) (by omega))
      obtain ⟨m, hm, hm1, hm2⟩ : ∃ m : Int, (if (if 1000000000000 / r < w then 1000000000000 / r else w) > 1 then if 1000000000000 / r < w then 1000000000000 / r else w else 1) = m ∧ 1 ≤ m ∧ m ≤ 60 := by
        refine ⟨_, rfl, ?_, ?_⟩ <;> split <;> (try split) <;> omega
      rw [hm]
      have hhl : hs.length ≤ 5 := by
        rw [← names_length, hnm, List.length_take]; omega
      refine ⟨hdw, g, n, s, t, m, rfl, by omega, by omega, fun lo g n s t f l0 l1 => ?_⟩
      walk_at "pw"
      refine home_places _ ns w sds hs M th i nm r (1 + lo) few sok sl1 sl2 (by omega) (by omega) nd t0 t1 hhl _ _ _ _ _ _ fun bs g n s t s15 hb => hk _ ⟨hs ++ [⟨nm, 1 + lo, bs⟩], M * 2 * (1 + lo), g, n, s, t, s15, ?_, ?_, ?_, ?_, rfl⟩
      · rw [names_snoc, hnm, List.take_add_one, hnmi]; rfl
      · intro v hv
        rcases List.mem_append.mp hv with y | y
        · exact hok v y
        · have : v = ⟨nm, 1 + lo, bs⟩ := by simpa using y
          subst this; exact hb
      · exact Int.mul_pos (Int.mul_pos M0 (by omega)) (by omega)
      · rw [Int.pow_succ, Int.mul_assoc]
        exact Int.mul_le_mul M1 (by omega) (by omega) (Int.le_of_lt (Int.pow_pos (by omega)))
    · rintro j x ρ k1 hx2 ⟨r, s11, r0, r1, rfl⟩ hk
      obtain ⟨z, hz2, rfl⟩ := map_at hx2
      simp only [tf_law_home_1]
      walk_at "pw"
      refine hk _ ⟨2 * r, _, by omega, ?_, rfl⟩
      rw [Int.pow_succ, ← Int.mul_assoc]
      omega
end PW
end HmN
section PwN
set_option maxRecDepth 100000
/-! PwN: calls in which keyword-only parameters with defaults lack. -/
namespace PW
open PySem PySem.Spec L2
open PyProof.Rows hiding St
/-- items by their places -/
def pmI {α : Type} : List Nat → List α → List α
  | [], _ => []
  | i :: is, xs => match xs[i]? with
    | some x => x :: pmI is xs
    | none => pmI is xs
theorem pmI_vals {vs : List V} {us : List Value} (h : Vals vs us) : ∀ is : List Nat, Vals (pmI is vs) (pmI is us)
  | [] => .nil
  | i :: is => by
    unfold pmI
    cases e : vs[i]? with
    | some v =>
      obtain ⟨u, hu, ru⟩ := h.get e
      rw [hu]
      exact .cons ru (pmI_vals h is)
    | none =>
      have : us[i]? = none := by
        rw [List.getElem?_eq_none_iff] at e ⊢
        rw [← h.length]; exact e
      rw [this]
      exact pmI_vals h is
theorem FnOk.calD {Pg : Program} {w : World} {K : PySem.W.Frag} {mg : Str → Option Value} {base : Heap} {k n np : Nat} {x qual : Str} {params : Arguments} {body : List Stmt} {scope : Scope} {S : FS} {fa : Addr} {fd : FuncData} {ps ks : List Str} {pm : List Pm} {kws : List (Str × V)} (ms : List (Str × V)) (is : List Nat)
    (F : FnOk Pg w K mg base CX0 k fa fd ps (spO K n S)) (D : FunD K x qual params body scope [] kws fa fd) (hm : mg x = some (.ref fa)) (hk : kws ≠ []) (hms : ∀ q ∈ ms, q ∈ kws)
    (h : ∀ (D : Addr) (doc pm : Value) (an : Option Addr) (cdv ct : Value) (us mv ws : List Value), us.length = np → mv.length = ms.length → ws.length = ks.length →
      KwChain D ((ms.map (·.1)).zip mv) (bindArgs (PySem.W.fnOf x qual params body scope .none (.ref D) doc pm an cdv ct) ⟨us, ks.zip ws⟩) (ps.zip (pmI is (us ++ ws ++ mv))))
    (hpm : ∀ vs zs : List V, vs.length = np → zs.length = ks.length → pmI is (vs ++ zs ++ ms.map (·.2)) = pmV (vs ++ zs) pm) : CalK Pg w K mg base k n x S np ks pm := by
  obtain ⟨mv, hb⟩ := FunD.kbinds0 D np ks ms (fun us mz ws => pmI is (us ++ ws ++ mz)) hk hms (fun r1 r2 r3 => pmI_vals (Vals.app (Vals.app r1 r3) r2) is) h
  exact ⟨fa, fd, ps, _, _, F, hm, D.kp, hb, hpm⟩
/-- a def with keyword-only defaults, as it stands in K -/
theorem funD_mk {K : PySem.W.Frag} {x qual : Str} {st : Stmt} {f D : Addr} {oc : Value} {od an : Option Addr} {osl : Array (Option Value)} {doc pm cdv ct : Value} {kws : List (Str × V)} (l : K.lookup f = some ⟨oc, od, .func (PySem.W.fnOf x qual (defArgs st) (defBody st) (defScope st) .none (.ref D) doc pm an cdv ct), osl⟩)
    (c : PySem.W.codeIn K cdv qual = true) (k : PySem.W.keepIn K (.ref f) = true) (h : ∀ q ∈ kws, ∃ u, PySem.W.nsIn K D q.1 = some (some u) ∧ RelV q.2 u) :
    FunD K x qual (defArgs st) (defBody st) (defScope st) [] kws f (PySem.W.fnOf x qual (defArgs st) (defBody st) (defScope st) .none (.ref D) doc pm an cdv ct) :=
  ⟨⟨oc, od, .none, .ref D, doc, pm, an, cdv, ct, osl, rfl, l, c, .inl ⟨rfl, rfl⟩, .inr ⟨D, rfl, h⟩⟩, k⟩
end PW
end PwN
section PwR
set_option maxRecDepth 100000
/-! PwR: list(range(n)), tuple(range(n)), reversed(range(n)). -/
namespace PW
open PySem PySem.Spec L2
open PyProof.Rows hiding St
section
variable {K : PySem.W.Frag} {H : Hp} {X : Cx} {tg e : Expr} {p p2 pos pos2 : Pos} {f : TF}
theorem rgV_rep {n : Int} (hn : 0 ≤ n) : RepDs K H (upto 0 n.toNat) (rgV 0 n) := by
  have go : ∀ (k : Nat) (lo : Int), RepDs K H (upto lo k) ((List.range k).map fun i => V.int (lo + (i : Nat))) := by
    intro k
    induction k with
    | zero => intro lo; exact rfl
    | succ k ih =>
      intro lo
      rw [List.range_succ_eq_map, List.map_cons, List.map_map]
      have := ih (lo + 1)
      have e : ((fun i : Nat => V.int (lo + (i : Nat))) ∘ Nat.succ) = fun i : Nat => V.int (lo + 1 + (i : Nat)) := by
        funext i
        show V.int (lo + ((i + 1 : Nat) : Int)) = _
        congr 1
        omega
      rw [e]
      exact ⟨.int lo, _, by simp, rfl, this⟩
  have := go n.toNat 0
  unfold rgV
  rw [Int.sub_zero]
  exact this
def oLstRg : OF := fun ts R => match ts with
  | [.d (.int n)] => (0 ≤ n ∧ n ≤ 16777216) ∧ R (.ls (upto 0 n.toNat))
  | _ => False
theorem oc_lstRg : OpOk K oLstRg fun vs H Q => ∃ x, vs = [x] ∧ ∃ n, x = .int n ∧ RgOk 0 n ∧ ∀ q, H q = none → Q (.ref q) (upd H q (.lst (rgV 0 n))) := by
  rintro ts vs H Q R b h k
  unfold oLstRg at h
  split at h
  · rename_i n
    obtain ⟨v, _, e, h1⟩ := b1 b
    have e2 : v = .int n := h1.1
    subst e2
    refine ⟨_, e, n, rfl, RgOk.of_le (by omega) h.1.2 (by omega) h.1.1, fun l hl => k _ _ (.ls (upto 0 n.toNat)) [l] (same_upd hl) (fun b hb => ?_) (by simp) ⟨l, _, rfl, upd_same, rgV_rep h.1.1, rfl⟩ h.2⟩
    have : b = l := by simpa using hb
    subst this; exact hl
  · exact h.elim
theorem ve_lstRg (hc : X.calm = true) (hg : Gl X "list") (hm : X.mg "list" = none) (hg2 : Gl X "range") (hm2 : X.mg "range" = none) (he : VE X e f) (na : starEach [(.Call (.Name "range" p2) [e] [] pos2)] X.env = (false, eval (.Call (.Name "range" p2) [e] [] pos2) X.env) :: starEach [] X.env := by rfl) (nb : starEach [e] X.env = (false, eval e X.env) :: starEach [] X.env := by rfl) :
    VE X (.Call (.Name "list" p) [.Call (.Name "range" p2) [e] [] pos2] [] pos) (fOp oLstRg (fCons f fNil)) :=
  (pe_listRg hc hg hm (prg_1 hg2 hm2 he nb) na).pwi fun σ H Q h => tO_mono (one_core (op_core oc_lstRg h)) fun x H1 ⟨y, e, n, h1, h2, h3⟩ => by
    cases e
    exact ⟨n, h1, h2, h3⟩
/-- from n - 1 down to 0 -/
def iRv1 (f : TF) : IF := fun ρ R => f ρ fun o ρ1 => match o with
  | .val (.d (.int j)) => (0 ≤ j ∧ j < 2 ^ 62) ∧ R (upto 0 j.toNat).reverse ρ1
  | _ => False
theorem yld_down {H0 : Hp} {W : List Addr} {n : Nat} : Yld K (Itc ((n : Int) - 1) (-1) n) H0 W (upto 0 n).reverse := fun H _ => by
  refine ⟨fun i hi => ⟨?_, fun x H' y => ?_⟩, fun i hi => ?_⟩
  · rw [List.length_reverse, upto_length] at hi; exact hi
  · obtain ⟨e, y⟩ := y
    subst e y
    rw [List.length_reverse, upto_length] at hi
    refine ⟨Same.refl _, .int ((n : Int) - 1 + (i : Nat) * (-1)), ?_, rfl⟩
    rw [List.getElem?_reverse (by rw [upto_length]; exact hi), upto_length, upto_get _ _ _ (by omega)]
    congr 2
    omega
  · rw [List.length_reverse, upto_length] at hi; exact Nat.le_of_eq hi.symm
theorem vi_rv1 (hg : Gl X "reversed") (hm : X.mg "reversed" = none) (hg2 : Gl X "range") (hm2 : X.mg "range" = none) (he : VE X e f) (na : starEach [(.Call (.Name "range" p2) [e] [] pos2)] X.env = (false, eval (.Call (.Name "range" p2) [e] [] pos2) X.env) :: starEach [] X.env := by rfl) (nb : starEach [e] X.env = (false, eval e X.env) :: starEach [] X.env := by rfl) :
    VI X tg (.Call (.Name "reversed" p) [.Call (.Name "range" p2) [e] [] pos2] [] pos) (iRv1 f) :=
  (pi_revR hg hm (prg_1 hg2 hm2 he nb) na).pwi fun σ H R ⟨P, ρ, W, Rq, G, q, k⟩ => ⟨P, ρ, W, _, G, q, fun v H1 o ρ1 r1 h1 => by
    obtain ⟨ws, W1, G1, st, nd, rp⟩ := r1.good G
    split at h1
    · rename_i j
      have hv : v = .int j := rp.1
      subst hv
      have e : (0 : Int) + ((((j - 0).toNat : Nat)) : Int) - 1 = ((j.toNat : Nat) : Int) - 1 := by omega
      refine ⟨j, rfl, by omega, by omega, by omega, h1.1.2, ?_⟩
      rw [e, Int.sub_zero]
      exact k _ _ _ ρ1 ⟨W1, st.drop, G1, yld_down⟩ h1.2
    · exact h1.elim⟩
end
end PW
end PwR
section PwX
set_option maxRecDepth 100000
/-! PwX: xs[::e], e of 1 or -1. -/
namespace PW
open PySem PySem.Spec L2
open PyProof.Rows hiding St
section
variable {K : PySem.W.Frag} {H : Hp} {X : Cx} {e e2 : Expr} {p3 pos : Pos} {fa fb : TF} {te t2 : TE}
def rStp (K : PySem.W.Frag) : V → Option Int → Hp → VK → Prop := fun x o H Q => ∃ a xs i, x = .ref a ∧ o = some i ∧ SqL K H a xs ∧ (i = 1 ∨ i = -1) ∧ ∀ p, H p = none → Q (.ref p) (upd H p (.lst (if i = 1 then xs else xs.reverse)))
theorem pick_1 (its : Array Value) : slicePick its none none (some 1) = its := by
  have e : slicePick its none none (some 1) = slicePick its none none none := rfl
  have h := slicePick_cut its.toList none none
  rw [Array.toArray_toList] at h
  rw [e, h, HT.sIx_none, HT.sIx_none, List.drop_zero, Nat.sub_zero, List.take_length, Array.toArray_toList]
theorem pe_stp (he : PE X e te) (h2 : PE X e2 t2) : PE X (.Subscript e (.Slice none none (some e2) p3) pos) (fun σ H Q => te σ H fun x H1 => t2 σ H1 fun y H2 => ∃ i, y = .int i ∧ rStp X.K x (some i) H2 Q) := by
  refine ⟨fun pins s σ H Q I h => ?_⟩
  refine Subscript_ (thn (he.run pins s σ H _ I h) fun v s1 ⟨x, H1, I1, r1, q1⟩ => ?_)
  refine wpAny_Slice (thn (po_none.run pins s1 σ H1 (fun o H2 => o = none ∧ H2 = H1) I1 ⟨rfl, rfl⟩) fun vl s2 ⟨l, H2, I2, pl, el, e2⟩ => ?_)
  subst el e2
  refine thn (po_none.run pins s2 σ H2 (fun o H3 => o = none ∧ H3 = H2) I2 ⟨rfl, rfl⟩) fun vu s3 ⟨u, H3, I3, pu, eu, e3⟩ => ?_
  subst eu e3
  refine thn ((po_some h2).run pins s3 σ H3 (fun o H4 => rStp X.K x o H4 Q) I3 q1) fun vs s4 ⟨o, H4, I4, ps, a, xs, i, ex, eo, hx, hi, q⟩ => ?_
  subst ex eo
  cases r1
  have I5 : Inv X pins σ H4 { s4 with heap := s4.heap.push { cls := .type "slice", data := .fields #[vl, vu, vs] } } := I4.kept (t' := s4.toks) fun b ob q => Heap.get?_push_of_some _ q
  obtain ⟨its, r, ht, hz⟩ := I5.list hx
  have hlen := r.length
  show wpAny (model X.prog X.w) X.A (subscriptTail _ (.Slice none none (some _) p3) (.ref a) (.ref s4.heap.objs.size)) (EP X pins σ Q) X.xe { s4 with heap := s4.heap.push { cls := .type "slice", data := .fields #[vl, vu, vs] } }
  refine tail_any (ops := [.ref a, .ref s4.heap.objs.size]) ht.isList.typeIs (PySem.slot_list_getitem.lookup) ?_ (by with_unfolding_all rfl)
  refine wpAny_getItem_list_slice ht.isList (Heap.IsSliceOf.new _ vl vu vs) pl pu ps (by rcases hi with rfl | rfl <;> decide) ?_ (by rw [List.size_toArray]; omega)
  have hq := q (s4.heap.objs.size + 1)
  rcases hi with rfl | rfl
  · rw [pick_1]
    refine ⟨.ref _, _, I5.laid (t' := s4.toks) (o := .lst xs) (fun b ob q => Heap.get?_push_of_some _ q) (Nat.le_refl _) ?_, rfl, by simpa using q _ (I5.hok.fresh (Nat.le_refl _))⟩
    exact ⟨hz, _, 0, r, Heap.get?_push_size _ rfl⟩
  · rw [PySem.W.krv_pick]
    refine ⟨.ref _, _, I5.laid (t' := s4.toks) (o := .lst xs.reverse) (fun b ob q => Heap.get?_push_of_some _ q) (Nat.le_refl _) ?_, rfl, by simpa using q _ (I5.hok.fresh (Nat.le_refl _))⟩
    exact ⟨by rw [List.length_reverse]; exact hz, _, 0, r.reverse, Heap.get?_push_size _ rfl⟩
def oStp : OF := fun ts R => match ts with
  | [t, .d (.int i)] => match seqOf t with
    | some xs => (i = 1 ∨ i = -1) ∧ R (.ls (if i = 1 then xs else xs.reverse))
    | none => False
  | _ => False
theorem ve_stp (ha : VE X e fa) (hb : VE X e2 fb) : VE X (.Subscript e (.Slice none none (some e2) p3) pos) (fOp oStp (fCons fa (fCons fb fNil))) := (pe_stp ha hb).pwi fun σ H Q h =>
  tO_mono (two_core (op_core (K := X.K) (r := fun vs H Q => ∃ x y, vs = [x, y] ∧ ∃ i, y = .int i ∧ rStp X.K x (some i) H Q) (fun ts vs H Q R b h k => by
    unfold oStp at h
    split at h
    · split at h
      · rename_i t i _ xs hx
        obtain ⟨v, v2, _, _, e, h1, h2⟩ := b2 b
        have e3 : v2 = .int i := h2.1
        subst e3
        obtain ⟨p, us, e2, hs, hr⟩ := seqOf_rep hx h1
        refine ⟨v, _, e, i, rfl, p, us, i, e2, rfl, hs, h.1, fun l hl => k _ _ (.ls (if i = 1 then xs else xs.reverse)) [l] (same_upd hl) (fun b hb => ?_) (by simp) ⟨l, _, rfl, upd_same, ?_, rfl⟩ h.2⟩
        · have : b = l := by simpa using hb
          subst this; exact hl
        · split
          · exact hr.keep (.same (same_upd hl))
          · exact hr.reverse.keep (.same (same_upd hl))
      · exact h.elim
    · exact h.elim) h)) fun x H1 h1 => tO_mono h1 fun y H2 ⟨x', y', e, h2⟩ => by
      injection e with e1 e2; injection e2 with e2 _; subst e1 e2; exact h2
end
end PW
end PwX
section PwY
set_option maxRecDepth 100000
/-! PwY: sorted(xs), xs a list of tuples whose first items are unlike whole numbers. -/
namespace PW
open PySem PySem.Spec L2
open PyProof.Rows hiding St
/-- a tuple that begins with a whole number -/
def HeadI (h : Heap) (v : Value) (k : Int) : Prop := ∃ (a : Addr) (o : Obj) (t : Tok) (r : List Value) (n : Nat), v = .ref a ∧ h.get? a = some o ∧ o.cls = .type "tuple" ∧ o.data = .seq (.int k t :: r).toArray n
theorem HeadI.keeps {h h' : Heap} {v : Value} {x : Int} (p : HeadI h v x) (k : ∀ b o, h.get? b = some o → o.cls = .type "tuple" → h'.get? b = some o) : HeadI h' v x := by
  obtain ⟨a, o, t, r, n, e, ho, hc, hd⟩ := p
  exact ⟨a, o, t, r, n, e, k _ _ ho hc, hc, hd⟩
theorem firsts_h {h : Heap} : ∀ {vs : List Value}, (∀ v ∈ vs, ∃ x, HeadI h v x) → ∃ fs : List Value, PySem.W.KatTups h vs fs ∧ fs.length = vs.length ∧ ∀ f ∈ fs, ∃ x t, f = Value.int x t
  | [], _ => ⟨[], PySem.W.KatTups.nil, rfl, fun _ hm => by simp at hm⟩
  | v :: vs, hp => by
    obtain ⟨fs, h1, h2, h3⟩ := firsts_h (vs := vs) fun v' hm => hp v' (List.mem_cons_of_mem _ hm)
    obtain ⟨x, a, o, t, r, n, e, ho, hc, hd⟩ := hp v (List.mem_cons_self ..)
    subst e
    refine ⟨.int x t :: fs, PySem.W.KatTups.cons ho hc hd (by simp) h1, by rw [List.length_cons, List.length_cons, h2], fun f hm => ?_⟩
    rcases List.mem_cons.mp hm with rfl | hm
    · exact ⟨x, t, rfl⟩
    · exact h3 f hm
section
variable {prog : Program} {w : World} {A : Around} {E : Value → Shared → Prop} {s : Shared}
theorem kat_self {b : Bool} {Q : Bool → Shared → Prop} : ∀ (xs : List Value) (i : Nat), Q false s → PySem.W.KatLex prog w A b false Q (xs.zip xs) i s
  | [], _, h => PySem.W.kat_nil h
  | x :: xs, i, h => by
    rw [List.zip_cons_cons]
    exact PySem.W.kat_cons (SeqAt.EqAt.same x prog w _ _ (PySem.W.kat_yes (kat_self xs (i + 1) h)))
theorem head_cmp {vs : List Value} {k : Value → Int} (hp : ∀ v ∈ vs, HeadI s.heap v (k v)) (hu : ∀ v ∈ vs, ∀ u ∈ vs, k v = k u → v = u) : SrtO.Cmp prog w A s (tuples' true) (fun p => p.1 ∈ vs) (SrtO.lt2 fun v u => decide (k v < k u)) := by
  intro p q hm hm'
  have h1 := hp _ hm
  have h2 := hp _ hm'
  have h3 := hu _ hm _ hm'
  show wpAny (model prog w) A (keyLt' (tuples' true) p.1 q.1) (fun r s' => s' = s ∧ r = decide (k p.1 < k q.1)) (fun _ _ => False) s
  obtain ⟨a, o, t, r, n, e, ho, hc, hd⟩ := h1
  obtain ⟨a', o', t', r', n', e', ho', hc', hd'⟩ := h2
  rw [e, e'] at h3
  rw [show keyLt' (tuples' true) p.1 q.1 = keyLt' (tuples' true) (.ref a) (.ref a') by rw [e, e']]
  by_cases hx : k p.1 = k q.1
  · have e1 : p.1 = q.1 := hu _ hm _ hm' hx
    have ea : a = a' := by
      have : Value.ref a = Value.ref a' := by rw [← e, ← e', e1]
      exact Value.ref.inj this
    subst ea
    refine PySem.W.kat_lt ho hd ho hd ?_
    have e3 : decide (k p.1 < k q.1) = false := by rw [hx]; exact decide_eq_false (Int.lt_irrefl _)
    rw [show decide ((Value.int (k p.1) t :: r).toArray.size < (Value.int (k p.1) t :: r).toArray.size) = false from decide_eq_false (Nat.lt_irrefl _)]
    exact kat_self _ 0 ⟨rfl, e3.symm⟩
  · refine PySem.W.kat_lt ho hd ho' hd' ?_
    show PySem.W.KatLex prog w A true _ _ ((.int (k p.1) t, .int (k q.1) t') :: r.zip r') 0 s
    refine PySem.W.kat_cons (SeqAt.EqAt.int_int (k p.1) t (k q.1) t' prog w _ _ ?_)
    refine PySem.W.kat_go (fun e1 => ?_) (fun e1 => ?_)
    · exact absurd (by simpa using e1) hx
    · exact PySem.W.kat_no (oneLt_int ⟨rfl, rfl⟩)
theorem swo_head (k : Value → Int) : SrtO.Swo fun v u => decide (k v < k u) := by
  refine ⟨fun x y h => ?_, fun x y z h1 h2 => ?_⟩
  · have := of_decide_eq_true h
    exact decide_eq_false (by omega)
  · have a := of_decide_eq_false h1
    have b := of_decide_eq_false h2
    exact decide_eq_false (by omega)
theorem head_sortable {a : Addr} {vs : List Value} {k : Value → Int} (h0 : 0 < vs.length) (hp : ∀ v ∈ vs, HeadI s.heap v (k v)) (hu : ∀ v ∈ vs, ∀ u ∈ vs, k v = k u → v = u) (ha : ∀ o, s.heap.get? a = some o → o.cls ≠ .type "tuple") : SrtO.SortableO prog w A s a vs fun v u => decide (k v < k u) := by
  intro h' keep
  have hp' : ∀ v ∈ vs, HeadI h' v (k v) := fun v hm => (hp v hm).keeps fun b o e c => keep b o (fun z => by subst z; exact ha o e c) e
  obtain ⟨fs, h1, h2, h3⟩ := firsts_h fun v hm => ⟨_, hp' v hm⟩
  refine ⟨tuples' true, fun Q E hq => ?_, head_cmp hp' hu⟩
  refine PySem.W.kat_kind (T := .type "int") h1 (by omega) (fun f hm => ?_) (by rfl) ?_
  · obtain ⟨x, t, rfl⟩ := h3 f hm
    exact PySem.W.Looks.now
  · have e : (Value.type "int" != Value.type "tuple") = true := by first | decide +kernel | rfl | decide
    rw [e]
    exact hq
theorem sorted_head {l : Addr} {vs : List Value} {k : Value → Int} {Q : Value → Shared → Prop} (hl : s.heap.IsList l vs.toArray) (hz : vs.length ≤ sizeLine) (hp : ∀ v ∈ vs, HeadI s.heap v (k v)) (hu : ∀ v ∈ vs, ∀ u ∈ vs, k v = k u → v = u)
    (h : ∀ (h' : Heap) (d : Addr) (out : List Value), out.Perm vs → (∀ b o, s.heap.get? b = some o → h'.get? b = some o) → s.heap.objs.size ≤ d → (∃ n, h'.get? d = some (seqObj "list" out.toArray n)) → Q (.ref d) { s with heap := h' }) :
    wpAny (model prog w) A (call (.builtin "sorted") [.ref l]) Q E s := by
  refine SrtO.sorted_ord (swo_head k) hl hz (fun h2 h₁ a ha kk => ?_) fun out hs hb => ?_
  · refine head_sortable (s := { s with heap := h₁ }) (by omega) (fun v hm => (hp v hm).keeps fun b o e _ => (kk b o e).2) hu fun o e => ?_
    have e' : some o = some (seqObj "list" vs.toArray 0) := e.symm.trans ha
    cases e'
    intro c
    exact absurd (Value.type.inj c) (by decide)
  · exact h _ _ out hb.perm (fun b o e => sortedAll_old e) (Nat.le_succ _) (sortedAll_at s.heap vs out.toArray)
end
def HeadsV (K : PySem.W.Frag) (H : Hp) : List Int → List V → Prop
  | [], xs => xs = []
  | k :: ks, xs => ∃ x r, xs = x :: r ∧ (∃ t l, x = V.ref t ∧ SqT K H t (.int k :: l)) ∧ HeadsV K H ks r
theorem HeadsV.ref {K : PySem.W.Frag} {H : Hp} : ∀ {ks : List Int} {xs : List V}, HeadsV K H ks xs → ∀ x ∈ xs, ∃ k ∈ ks, ∃ t l, x = V.ref t ∧ SqT K H t (.int k :: l)
  | [], xs, h, x, hx => by cases h; cases hx
  | k :: ks, xs, ⟨y, r, e, h1, h2⟩, x, hx => by
    subst e
    rcases List.mem_cons.mp hx with e | hx2
    · subst e; exact ⟨k, by simp, h1⟩
    · obtain ⟨k2, m, h⟩ := HeadsV.ref h2 x hx2
      exact ⟨k2, by simp [m], h⟩
/-- unlike keys, unlike items -/
theorem HeadsV.inj {K : PySem.W.Frag} {H : Hp} (f : V → Int) : ∀ {ks : List Int} {xs : List V}, HeadsV K H ks xs → ks.Nodup → (∀ x k t l, x ∈ xs → x = V.ref t → SqT K H t (.int k :: l) → f x = k) → ∀ x ∈ xs, ∀ y ∈ xs, f x = f y → x = y
  | [], xs, h, _, _, x, hx, _, _, _ => by cases h; cases hx
  | k :: ks, xs, ⟨z, r, e, ⟨t, l, e1, h1⟩, h2⟩, nd, hf, x, hx, y, hy, e2 => by
    subst e
    rw [List.nodup_cons] at nd
    have fz : f z = k := hf z k t l (by simp) e1 h1
    have fr : ∀ u ∈ r, f u ∈ ks := fun u hu => by
      obtain ⟨k2, m, t2, l2, e3, h3⟩ := HeadsV.ref h2 u hu
      rw [hf u k2 t2 l2 (by simp [hu]) e3 h3]
      exact m
    rcases List.mem_cons.mp hx with e3 | hx2 <;> rcases List.mem_cons.mp hy with e4 | hy2
    · rw [e3, e4]
    · subst e3; exact absurd (by rw [← fz, e2]; exact fr y hy2) nd.1
    · subst e4; exact absurd (by rw [← fz, ← e2]; exact fr x hx2) nd.1
    · exact HeadsV.inj f h2 nd.2 (fun u k t l m => hf u k t l (by simp [m])) x hx2 y hy2 e2
def rSortH (K : PySem.W.Frag) : List V → Hp → VK → Prop := fun vs H Q => ∃ (a : Addr) (xs : List V) (ks : List Int), vs = [V.ref a] ∧ SqL K H a xs ∧ HeadsV K H ks xs ∧ ks.Nodup ∧
  ∀ ys p, ys.Perm xs → H p = none → Q (.ref p) (upd H p (.lst ys))
section
variable {X : Cx}
theorem cr_sortedH : CallR X (.builtin "sorted") (rSortH X.K) := by
  classical
  intro pins s σ H vs us Q I r h
  obtain ⟨a, xs, ks, rfl, hs, hx, nd, q⟩ := h
  obtain ⟨its, rv, hl, hz⟩ := I.list hs
  obtain ⟨u, rfl, ru⟩ := vals1 r
  obtain rfl : u = Value.ref a := ru
  obtain ⟨e1, e2⟩ := refs_back rv fun x m => by
    obtain ⟨_, _, t, _, e, _⟩ := hx.ref x m
    exact ⟨t, e⟩
  have mem : ∀ v ∈ its, backV v ∈ xs := fun v hv => by rw [e1]; exact List.mem_map.mpr ⟨_, hv, rfl⟩
  let f : V → Int := fun x => if h : ∃ (k : Int) (t : Addr) (l : List V), x = V.ref t ∧ SqT X.K H t (.int k :: l) then Classical.choose h else 0
  have hf : ∀ x k t l, x = V.ref t → SqT X.K H t (.int k :: l) → f x = k := fun x k t l e hq => by
    have h : ∃ (k : Int) (t : Addr) (l : List V), x = V.ref t ∧ SqT X.K H t (.int k :: l) := ⟨k, t, l, e, hq⟩
    show (if h : ∃ (k : Int) (t : Addr) (l : List V), x = V.ref t ∧ SqT X.K H t (.int k :: l) then Classical.choose h else 0) = k
    rw [dif_pos h]
    obtain ⟨t2, l2, e2, hq2⟩ := Classical.choose_spec h
    rw [e] at e2
    cases e2
    have := I.tuple_inj hq2 hq
    injection this with e3 _
    injection e3
  have hinj := HeadsV.inj f hx nd fun x k t l _ e hq => hf x k t l e hq
  refine sorted_head (k := fun u => f (backV u)) hl.isList (by rw [← rv.length]; exact hz) (fun v hv => ?_) (fun v hv u hu e => ?_) fun h' d out h2 kp hd hn => ?_
  · obtain ⟨t, rfl⟩ := e2 v hv
    obtain ⟨k, _, t', l, e, ht⟩ := hx.ref _ (mem _ hv)
    cases e
    obtain ⟨its2, r2, ⟨o, ho, hc, n, hd⟩, _⟩ := I.tuple ht
    have fk : f (V.ref t) = k := hf _ k t l rfl ht
    cases r2 with
    | @cons _ u0 _ ur ra rw' =>
      obtain ⟨tk, rfl⟩ := ra
      refine ⟨t, o, tk, ur, n, rfl, ho, hc, ?_⟩
      show o.data = .seq (.int (f (V.ref t)) tk :: ur).toArray n
      rw [fk]; exact hd
  · obtain ⟨t, rfl⟩ := e2 v hv
    obtain ⟨t', rfl⟩ := e2 u hu
    have := hinj _ (mem _ hv) _ (mem _ hu) e
    have : V.ref t = V.ref t' := this
    cases this
    rfl
  · have h3 : ∀ u ∈ out, ∃ a, u = Value.ref a := fun u hu => e2 u (h2.mem_iff.mp hu)
    obtain ⟨n, hn⟩ := hn
    have hb : (out.map backV).Perm xs := by
      rw [e1]
      exact h2.map backV
    refine ⟨.ref d, upd H d (.lst (out.map backV)), I.laid (t' := s.toks) kp hd ⟨?_, out, n, vals_back h3, hn⟩, rfl, q _ d hb (I.hok.fresh hd)⟩
    rw [hb.length_eq]
    exact hz
end
/-! ### over trees -/
def headD (q : Int × List D) : D := .tuple (.int q.1 :: q.2)
def oSortH : OF := fun ts R => ∃ (t : T) (ks : List (Int × List D)), ts = [t] ∧ seqOf t = some (ks.map headD) ∧ (ks.map (·.1)).Nodup ∧ ∀ ys : List (Int × List D), ys.Perm ks → R (.ls (ys.map headD))
theorem perm_reps {K : PySem.W.Frag} {H : Hp} {vs us : List V} (h : vs.Perm us) : ∀ {ks : List D}, RepDs K H ks us → ∃ ys, ys.Perm ks ∧ RepDs K H ys vs := by
  induction h with
  | nil => intro ks r; cases ks with
    | nil => exact ⟨[], .nil, rfl⟩
    | cons _ _ => obtain ⟨_, _, e, _⟩ := r; cases e
  | cons v _ ih => intro ks r; cases ks with
    | nil => cases r
    | cons k ks =>
      obtain ⟨v', r', e, h1, h2⟩ := r
      cases e
      obtain ⟨ys, hp, hr⟩ := ih h2
      exact ⟨k :: ys, hp.cons k, _, _, rfl, h1, hr⟩
  | swap v w l => intro ks r; cases ks with
    | nil => cases r
    | cons k ks =>
      obtain ⟨v', r', e, h1, h2⟩ := r
      cases e
      cases ks with
      | nil => cases h2
      | cons k2 ks =>
        obtain ⟨v2, r2, e2, h3, h4⟩ := h2
        cases e2
        exact ⟨k2 :: k :: ks, .swap .., _, _, rfl, h3, _, _, rfl, h1, h4⟩
  | trans _ _ ih1 ih2 => intro ks r; 
                         obtain ⟨ys, p1, r1⟩ := ih2 r
                         obtain ⟨zs, p2, r2⟩ := ih1 r1
                         exact ⟨zs, p2.trans p1, r2⟩
theorem heads_of {K : PySem.W.Frag} {H : Hp} : ∀ {ks : List (Int × List D)} {us : List V}, RepDs K H (ks.map headD) us → HeadsV K H (ks.map (·.1)) us
  | [], us, h => h
  | q :: ks, us, ⟨v, r, e, ⟨a, vs, e1, h1, v1, r1, e2, h2, _⟩, h3⟩ => by
    have h2 : v1 = .int q.1 := h2
    subst e1 e2 h2
    exact ⟨_, r, e, ⟨a, r1, rfl, h1⟩, heads_of h3⟩
theorem headD_inj {p q : Int × List D} (h : headD p = headD q) : p = q := by
  unfold headD at h
  injection h with h
  injection h with h1 h2
  injection h1 with h1
  exact Prod.ext h1 h2
theorem perm_heads {zs : List D} {ks : List (Int × List D)} (h : zs.Perm (ks.map headD)) : ∃ qs : List (Int × List D), zs = qs.map headD ∧ qs.Perm ks := by
  have ex : ∃ qs : List (Int × List D), zs = qs.map headD := by
    have : ∀ z ∈ zs, ∃ q, z = headD q := fun z hz => by
      obtain ⟨q, _, e⟩ := List.mem_map.mp (h.subset hz)
      exact ⟨q, e.symm⟩
    clear h
    induction zs with
    | nil => exact ⟨[], rfl⟩
    | cons z zs ih =>
      obtain ⟨q, rfl⟩ := this z (by simp)
      obtain ⟨qs, rfl⟩ := ih fun y hy => this y (by simp [hy])
      exact ⟨q :: qs, rfl⟩
  obtain ⟨qs, rfl⟩ := ex
  refine ⟨qs, rfl, ?_⟩
  have := h.map fun d => match d with | .tuple (.int k :: l) => (k, l) | _ => (0, [])
  simpa [List.map_map, Function.comp_def, headD] using this
theorem oc_sortH {K : PySem.W.Frag} : OpOk K oSortH (rSortH K) := by
  rintro _ vs H Q R b ⟨t, ks, rfl, ht, hn, h⟩ k
  obtain ⟨v, _, e, h1⟩ := b1 b
  obtain ⟨p, us, e2, hs, hr⟩ := seqOf_rep ht h1
  subst e2
  refine ⟨p, us, ks.map (·.1), e, hs, heads_of hr, hn, fun ys l hp hl => ?_⟩
  obtain ⟨zs, hpz, hrz⟩ := perm_reps hp hr
  obtain ⟨qs, rfl, hpq⟩ := perm_heads hpz
  refine k _ _ (.ls (qs.map headD)) [l] (same_upd hl) (fun b hb => ?_) (by simp) ⟨l, _, rfl, upd_same, hrz.keep (.same (same_upd hl)), rfl⟩ (h qs hpq)
  have : b = l := by simpa using hb
  subst this; exact hl
end PW
end PwY
section HmB
set_option maxRecDepth 100000
/-! HmB: beats: promises of the functions of steps, beats, of ways behind and ahead; what is heard, sorted. -/
namespace PW
open PySem L2
open PyProof.Rows hiding St
/-- the row that heard tells: there is one sorted row -/
noncomputable def srt (xs : List Str) : List Str := by
  classical exact if h : ∃ ys : List Str, ys.Perm xs ∧ sortedS ys = true then Classical.choose h else xs
theorem srt_eq {xs ys : List Str} (h1 : ys.Perm xs) (h2 : sortedS ys = true) : ys = srt xs := by
  have h : ∃ ys : List Str, ys.Perm xs ∧ sortedS ys = true := ⟨ys, h1, h2⟩
  unfold srt
  rw [dif_pos h]
  obtain ⟨a, b⟩ := Classical.choose_spec h
  exact sorted_eq h1 a h2 b
def beatN (h : List Wkr) : Nat → Stg → Stg
  | 0, s => s
  | n + 1, s => beatM h (beatN h n s)
noncomputable def rowOf (h : List Wkr) (s : Stg) : List Str := srt (soundsOf (here h s))
def S_law_gone : FS := fun ss R => ∃ h s, ss = [.own (.d (houD h)), .own (.d (stD s))] ∧ OkH h ∧ OkS h s ∧ ∀ fin, R (.d (stD (steppd h s))) fin
def S_law_beat : FS := fun ss R => ∃ h s, ss = [.own (.d (houD h)), .own (.d (stD s))] ∧ OkH h ∧ OkS h s ∧ ∀ fin, R (.d (stD (beatM h s))) fin
def walkM (h : List Wkr) (s : Stg) (n : Nat) : List Stg := (List.range (n + 1)).map fun k => beatN h k s
def S_law_walk : FS := fun ss R => ∃ (h : List Wkr) (s : Stg) (m : Int), ss = [.own (.d (houD h)), .own (.d (stD s)), .own (.d (.int m))] ∧ OkH h ∧ OkS h s ∧ 0 ≤ m ∧ m ≤ 2400 ∧ ∀ fin, R (.ls ((walkM h s m.toNat).map stD)) fin
def S_beaten : FS := fun ss R => ∃ (h : List Wkr) (s : Stg) (m : Int), ss = [.own (.d (houD h)), .own (.d (stD s)), .own (.d (.int m))] ∧ OkH h ∧ OkS h s ∧ 0 ≤ m ∧ m ≤ 2400 ∧ ∀ fin, R (.d (stD (beatN h m.toNat s))) fin
def S_back : FS := fun ss R => ∃ (h : List Wkr) (s : Stg) (m : Int), ss = [.own (.d (houD h)), .own (.d (stD s)), .own (.d (.int m))] ∧ OkH h ∧ OkS h s ∧ 0 ≤ m ∧ m ≤ 2400 ∧ ∀ fin, R (.d (stD (mirM h (beatN h m.toNat (mirM h s))))) fin
def S_passed : FS := fun ss R => ∃ (h : List Wkr) (s : Stg) (m : Int), ss = [.own (.d (houD h)), .own (.d (stD s)), .own (.d (.int m))] ∧ OkH h ∧ OkS h s ∧ 0 ≤ m ∧ m ≤ 2400 ∧ ∀ fin, R (.ls ((walkM h s m.toNat).map stD)) fin
def S_hearing : FS := fun ss R => ∃ (h : List Wkr) (s : Stg) (m : Int), ss = [.own (.d (houD h)), .own (.d (stD s)), .own (.d (.int m))] ∧ OkH h ∧ OkS h s ∧ 0 ≤ m ∧ m ≤ 2400 ∧ ∀ fin, R (.ls ((walkM h s m.toNat).map fun x => strsD (rowOf h x))) fin
def S_law_heard : FS := fun ss R => ∃ h s, ss = [.own (.d (houD h)), .own (.d (stD s))] ∧ OkH h ∧ s.length = h.length ∧ ∀ fin, R (.d (strsD (rowOf h s))) fin
end PW
end HmB
section HmBT
set_option maxRecDepth 100000
/-! printed by gen.py: transformers that laws share, from k16 -/
namespace PW
open PySem L2
open PyProof.Rows hiding St

/-- ['house', 'standing', 'k', 'place', 'way'] mut [] -/
def tf_stepped : SF := bCons (sRet (fOp oTupOf (fCons (fLc [2, 3, 4] (iEnu (fCons (fVar 1) (fNil))) (gTp 2 (gC (gNm 2) (gC (gTp 2 (gC (gNm 3) (gC (gNm 4) (gN)))) (gN)))) (tYesF) (fOp oTup (fCons (fOp oMod (fCons (fOp oAdd (fCons (fVar 3) (fCons (fVar 4) fNil))) (fCons (fOp oIx (fCons (fOp oIx (fCons (fVar 0) (fCons (fVar 2) fNil))) (fCons (fCst (.int 1)) fNil))) fNil))) (fCons (fVar 4) (fNil))))) (fNil)))) (bNil)

def tf_beaten_1 : SF := bCons (sAsg (fCall S_rung [.v, .v] [] (fCons (fVar 0) (fCons (fCall S_stepped [.v, .v] [] (fCons (fVar 0) (fCons (fVar 1) (fNil)))) (fNil)))) (gNm 1)) (bKill [3] (bNil))

/-- ['house', 'standing', 'beats', 'beat'] mut [] -/
def tf_beaten : SF := bKill [3] (bCons (sFor (iRg1 (fCons (fVar 2) (fNil))) (gNm 3) (tf_beaten_1)) (bCons (sRet (fVar 1)) (bNil)))

def tf_passed_1 : SF := bCons (sDrop (fMut 3 mApp (fCons (fCallK S_beaten 2 0 [.a 0, .a 1, .d (.int 1)] (fCons (fVar 0) (fCons (fOp oIx (fCons (fBor 3) (fCons (fOp oNeg (fCons (fCst (.int 1)) fNil)) fNil))) (fNil))) (fNil)) (fNil)))) (bKill [4] (bNil))

def tf_passed_2 : SF := bKill [4] (bCons (sFor (iRg1 (fCons (fVar 2) (fNil))) (gNm 4) (tf_passed_1)) (bCons (sRet (fMv 3)) (bNil)))

/-- ['house', 'standing', 'beats', 'found', 'beat'] mut [] -/
def tf_passed : SF := bCons (sAsg (fOp oLst (fCons (fVar 1) (fNil))) (gNm 3)) (tf_passed_2)

/-- ['house', 'standing', 'beats', 'one'] mut [] -/
def tf_hearing : SF := bCons (sRet (fLc [3] (iLst (fCall S_passed [.v, .v, .v] [] (fCons (fVar 0) (fCons (fVar 1) (fCons (fVar 2) (fNil)))))) (gNm 3) (tYesF) (fCall S_heard [.v, .v] [] (fCons (fVar 0) (fCons (fVar 3) (fNil)))))) (bNil)

/-- ['house', 'standing', 'beats'] mut [] -/
def tf_back : SF := bCons (sRet (fCall S_mirrored [.v, .v] [] (fCons (fVar 0) (fCons (fCallK S_beaten 2 1 [.a 0, .a 1, .a 2] (fCons (fVar 0) (fCons (fCall S_mirrored [.v, .v] [] (fCons (fVar 0) (fCons (fVar 1) (fNil)))) (fNil))) (fCons (fVar 2) (fNil))) (fNil))))) (bNil)

/-- ['_law_home_here', '_law_stand_here', '_law_sound', '_law_told'] mut [] -/
def tf_law_heard : SF := bCons (sRet (fOp oTupOf (fCons (fOp oSortS (fCons (fLc [2, 3] (iLst (fCall S_law_here [.v, .v] [] (fCons (fVar 0) (fCons (fVar 1) (fNil))))) (gTp 2 (gC (gNm 2) (gC (gNm 3) (gN)))) (fTest (fOp oNeS (fCons (fVar 2) (fCons (fCst (.str "")) fNil)))) (fVar 2)) (fNil))) (fNil)))) (bNil)

def tf_law_gone_1 : SF := bCons (sDrop (fMut 2 mApp (fCons (fOp oTup (fCons (fIfE (fCh (fun i j => decide (i ≤ j)) (fun i j => decide (i < j)) (fCst (.int 0)) (fOp oAdd (fCons (fVar 6) (fCons (fVar 7) fNil))) (fVar 4)) (fOp oAdd (fCons (fVar 6) (fCons (fVar 7) fNil))) (fOp oIx (fCons (fOp oLst (fCons (fOp oSub (fCons (fVar 4) (fCons (fCst (.int 1)) fNil))) (fCons (fCst (.int 0)) (fNil)))) (fCons (fOp oInt (fCons (fOp oEqS (fCons (fVar 7) (fCons (fCst (.int 1)) fNil))) (fNil))) fNil)))) (fCons (fVar 7) (fNil)))) (fNil)))) (bKill [3, 4, 5, 6, 7] (bNil))

def tf_law_gone_2 : SF := bKill [3, 4, 5, 6, 7] (bCons (sFor (iZip (fCons (fVar 0) (fCons (fVar 1) (fNil)))) (gTp 2 (gC (gTp 3 (gC (gNm 3) (gC (gNm 4) (gC (gNm 5) (gN))))) (gC (gTp 2 (gC (gNm 6) (gC (gNm 7) (gN)))) (gN)))) (tf_law_gone_1)) (bCons (sRet (fOp oTupOf (fCons (fBor 2) (fNil)))) (bNil)))

/-- ['_law_home_here', '_law_stand_here', '_law_found', '_law_name', '_law_long', '_law_bells', '_law_place', '_law_way'] mut [] -/
def tf_law_gone : SF := bCons (sAsg (fOp oLst (fNil)) (gNm 2)) (tf_law_gone_2)

/-- ['_law_home_here', '_law_stand_here'] mut [] -/
def tf_law_beat : SF := bCons (sRet (fCall S_law_rung [.v, .v] [] (fCons (fVar 0) (fCons (fCall S_law_gone [.v, .v] [] (fCons (fVar 0) (fCons (fVar 1) (fNil)))) (fNil))))) (bNil)

def tf_law_walk_1 : SF := bCons (sDrop (fMut 3 mApp (fCons (fCall S_law_beat [.v, .v] [] (fCons (fVar 0) (fCons (fOp oIx (fCons (fBor 3) (fCons (fOp oNeg (fCons (fCst (.int 1)) fNil)) fNil))) (fNil)))) (fNil)))) (bKill [4] (bNil))

def tf_law_walk_2 : SF := bKill [4] (bCons (sFor (iRg1 (fCons (fVar 2) (fNil))) (gNm 4) (tf_law_walk_1)) (bCons (sRet (fMv 3)) (bNil)))

/-- ['_law_home_here', '_law_stand_here', '_law_hours', '_law_found', '_law_turn'] mut [] -/
def tf_law_walk : SF := bCons (sAsg (fOp oLst (fCons (fVar 1) (fNil))) (gNm 3)) (tf_law_walk_2)

end PW
end HmBT
section HmBP
set_option maxRecDepth 100000
set_option maxHeartbeats 1000000
/-! HmBP: the promises of beats are kept; what beats do. -/
namespace PW
open PySem L2
open PyProof.Rows hiding St
local macro_rules | `(tactic| walk_at "pw") => `(tactic| simp only [sTupN, sPar3, setO, sSetK, fGetK, fNeK, fPopK, fDk, valsO, fCallK, fCat, fPerm, fLenA, dsO, pmD, vals, fIsi2, iZip, iEnu, iStrF, gHd, itsOf, fStr1, fLs, mPop, mPopAt, mExt, fAsI, oS00, oS01, oS10, oS11, oRev, cutT, oDivW, oCatS, oCatT, oRepL, oIsN, oNotN, isN, oAbs, fCh, fOfT, fIfE, oEqD, oNeD, dOf, lk_great, lk_now, lk_seed, lk_turn, pt_now, pt_seed, pt_turn, rp_great, sack_len, sackT, houD, stD, strsD, List.length_append, bCons, bNil, bKill, killS, sAsg, sRet, sIf, sDrop, sPar, sFor, fCall, pass, fLc, iRg1, iRg2, iLst, iTup, iEnumL, seqOf, tYesF, ownsOf, putBack, keepD, gTp, gC, gN, fOp, fCons, fNil, fVar, fBor, fCst, fMv, fFrz, fFz, withR, gNm, fTest, fNot, fOr, fAnd, fAndV, fOrV, fIsi, tyOf, Ty.isi, oAdd, oSub, oMul, oDiv, oMod, oPow, oNeg, oCmp, oEqS, oNeS, oTup, oLst, datas, oLen, oIx, oInt, oMax2, oMin2, oCatL, sSubL, fMut, mApp, CDiv, CMul, CPow, List.replicate, List.cons_append, List.nil_append, List.getElem?_cons_zero, List.getElem?_cons_succ, List.getD_cons_zero, List.getD_cons_succ, List.set_cons_zero, List.set_cons_succ, List.length_cons, List.length_nil, List.length_map, sizeLine_eq, Nat.reduceAdd, Nat.reduceLeDiff, Nat.reduceLT, true_and, and_true, true_or, or_true, and_self, Bool.false_eq_true, if_true, if_false, decide_eq_true_eq, atI0, atI1, atI2, at_pick, ixN, Option.bind_some, Int.reduceLE, Int.reduceLT, Int.reduceNeg, Int.reduceToNat, Int.reduceAdd, Int.reducePow, Int.reduceMul, Int.reduceAbs, Nat.reducePow, Int.cast_ofNat_Int, Int.toNat_zero, Int.toNat_one, ↓reduceIte, Std.le_refl, List.map_nil, List.append_nil, List.tail_cons, List.headD_cons, List.take_succ_cons, List.take_zero, List.take_nil])
theorem okS_step {h : List Wkr} {s : Stg} (ok : ∀ w ∈ h, 1 ≤ w.lg) (o : OkS h s) : OkS h (steppd h s) := by
  induction h generalizing s with
  | nil => cases s with
    | nil => exact True.intro
    | cons _ _ => exact o.elim
  | cons w h ih => cases s with
    | nil => exact o.elim
    | cons p s =>
      obtain ⟨a, b, c, d⟩ := o
      have l := ok w (by simp)
      exact ⟨Int.emod_nonneg _ (by omega), Int.emod_lt_of_pos _ (by omega), c, ih (fun v hv => ok v (by simp [hv])) d⟩
theorem okS_turnd (ns : List Str) {h : List Wkr} {s : Stg} (o : OkS h s) : OkS h (turnd ns h s) := by
  induction h generalizing s with
  | nil => cases s with
    | nil => exact True.intro
    | cons _ _ => exact o.elim
  | cons w h ih => cases s with
    | nil => exact o.elim
    | cons p s =>
      obtain ⟨a, b, c, d⟩ := o
      refine ⟨a, b, ?_, ih d⟩
      show (if w.nm ∈ ns then -p.2 else p.2) = 1 ∨ (if w.nm ∈ ns then -p.2 else p.2) = -1
      split <;> omega
theorem okS_rung {h : List Wkr} {s : Stg} (o : OkS h s) : OkS h (rungM h s) := okS_turnd _ o
theorem okS_mir {h : List Wkr} {s : Stg} (o : OkS h s) : OkS h (mirM h s) := okS_turnd _ (okS_rung o)
theorem OkH.l1 {h : List Wkr} (ok : OkH h) : ∀ w ∈ h, 1 ≤ w.lg := fun w hw => (ok.lg w hw).1
theorem okS_beat {h : List Wkr} {s : Stg} (ok : OkH h) (o : OkS h s) : OkS h (beatM h s) := okS_rung (okS_step ok.l1 o)
theorem okS_beatN {h : List Wkr} {s : Stg} (ok : OkH h) (o : OkS h s) : ∀ n, OkS h (beatN h n s)
  | 0 => o
  | n + 1 => okS_beat ok (okS_beatN ok o n)
theorem okS_at : ∀ {h : List Wkr} {s : Stg} {i : Nat} {w : Wkr} {p : Int × Int}, OkS h s → h[i]? = some w → s[i]? = some p → 0 ≤ p.1 ∧ p.1 < w.lg ∧ (p.2 = 1 ∨ p.2 = -1)
  | [], [], _, _, _, _, e, _ => by simp at e
  | v :: h, q :: s, 0, w, p, ⟨a, b, c, _⟩, e1, e2 => by
    simp at e1 e2
    subst e1 e2
    exact ⟨a, b, c⟩
  | v :: h, q :: s, i + 1, w, p, ⟨_, _, _, d⟩, e1, e2 => okS_at d (by simpa using e1) (by simpa using e2)
  | [], _ :: _, _, _, _, o, _, _ => o.elim
  | _ :: _, [], _, _, _, o, _, _ => o.elim
theorem step_take : ∀ (i : Nat) (h : List Wkr) (s : Stg) (w : Wkr) (p : Int × Int), h[i]? = some w → s[i]? = some p → steppd (h.take (i + 1)) (s.take (i + 1)) = steppd (h.take i) (s.take i) ++ [((p.1 + p.2) % w.lg, p.2)]
  | 0, w' :: h, p' :: s, w, p, hw, hp => by
    simp at hw hp
    subst hw hp
    simp [steppd]
  | i + 1, w' :: h, p' :: s, w, p, hw, hp => by
    have ih := step_take i h s w p (by simpa using hw) (by simpa using hp)
    simp only [List.take_succ_cons, steppd, ih, List.cons_append]
  | 0, [], _, _, _, hw, _ => by simp at hw
  | 0, _ :: _, [], _, _, _, hp => by simp at hp
  | _ + 1, [], _, _, _, hw, _ => by simp at hw
  | _ + 1, _ :: _, [], _, _, _, hp => by simp at hp
theorem step_length : ∀ (h : List Wkr) (s : Stg), s.length = h.length → (steppd h s).length = h.length
  | [], s, _ => by simp [steppd]
  | w :: h, [], e => by simp at e
  | w :: h, p :: s, e => by simp only [steppd, List.length_cons]; rw [step_length h s (by simpa using e)]
theorem p_stepped (ss : List Slot) (R : T → List Slot → Prop) (hl : ss.length = 2) (h : S_stepped ss R) : tf_stepped { nx := fun ρ => R (.d .none) (finS [] 2 ρ), rt := fun t ρ => R t (finS [] 2 ρ) } (ss ++ List.replicate 3 .un) := by
  obtain ⟨h0, s0, rfl, ok, hs, h⟩ := h
  have few := ok.few
  simp only [tf_stepped]
  walk_at "pw"
  refine lpC_at (fun j acc ρ => acc = (steppd (h0.take j) (s0.take j)).map posD ∧ ρ = [.own (.d (houD h0)), .own (.d (stD s0)), .un, .un, .un]) ⟨by simp [steppd], rfl⟩ (by rw [enumD_length, List.length_map, sizeLine_eq]; omega) ?_ ?_
  · rintro acc ρ ⟨rfl, rfl⟩
    rw [enumD_length, List.length_map, List.take_length, hs, List.take_length]
    walk_at "pw"
    refine ⟨_, _, rfl, rfl, ?_, h _⟩
    rw [List.length_map, step_length h0 s0 hs, sizeLine_eq]; omega
  · rintro j x acc ρ k1 k2 hx ⟨rfl, rfl⟩ h1 h2
    obtain ⟨d, hd, rfl⟩ := enum_at hx
    obtain ⟨p, hp, rfl⟩ := map_at hd
    have hj : j < h0.length := by have := (List.getElem?_eq_some_iff.mp hp).1; omega
    have hw : h0[j]? = some h0[j] := List.getElem?_eq_getElem hj
    have hlg := ok.lg _ (List.getElem_mem hj)
    simp only [posD]
    walk_at "pw"
    have e : atI (h0.map Wkr.d) (j : Int) = some (Wkr.d h0[j]) := atI_nat (by rw [List.getElem?_map, hw]; rfl)
    rw [e]
    simp only [Wkr.d]
    walk_at "pw"
    refine ⟨by omega, h1 _ _ ⟨?_, rfl⟩⟩
    rw [step_take j h0 s0 _ _ hw hp, List.map_append]
    rfl
theorem gone_same {p w l : Int} (h0 : 0 ≤ p) (h1 : p < l) (hw : w = 1 ∨ w = -1) : (if 0 ≤ p + w ∧ p + w < l then p + w else if w = 1 then 0 else l - 1) = (p + w) % l := by
  rcases hw with rfl | rfl
  · by_cases c : p + 1 < l
    · rw [if_pos ⟨by omega, c⟩, Int.emod_eq_of_lt (by omega) c]
    · have : p + 1 = l := by omega
      rw [if_neg (by omega), if_pos rfl, this, Int.emod_self]
  · by_cases c : 0 ≤ p + -1
    · rw [if_pos ⟨c, by omega⟩, Int.emod_eq_of_lt c (by omega)]
    · have : p = 0 := by omega
      subst this
      rw [if_neg (by omega), if_neg (by omega)]
      have e : (0 + -1 : Int) = (l - 1) + l * (-1) := by omega
      rw [e, Int.add_mul_emod_self_left, Int.emod_eq_of_lt (by omega) (by omega)]
theorem p_law_gone (ss : List Slot) (R : T → List Slot → Prop) (hl : ss.length = 2) (h : S_law_gone ss R) : tf_law_gone { nx := fun ρ => R (.d .none) (finS [] 2 ρ), rt := fun t ρ => R t (finS [] 2 ρ) } (ss ++ List.replicate 6 .un) := by
  obtain ⟨h0, s0, rfl, ok, os, h⟩ := h
  have few := ok.few
  have hs := okS_length os
  simp only [tf_law_gone, tf_law_gone_1, tf_law_gone_2]
  walk_at "pw"
  refine ⟨hs.symm, ?_⟩
  have hz : (zipD (h0.map Wkr.d) (s0.map posD)).length = h0.length := by rw [zipD_length, List.length_map, List.length_map]; omega
  refine lp_at (fun i ρ => ρ = [.own (.d (houD h0)), .own (.d (stD s0)), .own (.ls ((steppd (h0.take i) (s0.take i)).map posD)), .un, .un, .un, .un, .un]) (by simp [steppd, houD, stD]) ?_ ?_
  · rintro ρ rfl
    rw [hz, List.take_length, ← hs, List.take_length]
    walk_at "pw"
    refine ⟨_, _, rfl, rfl, ?_, h _⟩
    rw [List.length_map, step_length h0 s0 hs, sizeLine_eq]; omega
  · rintro i x ρ k hx rfl hk
    obtain ⟨a, b, ha, hb, rfl⟩ := zip_at hx
    obtain ⟨w, hw, rfl⟩ := map_at ha
    obtain ⟨p, hp, rfl⟩ := map_at hb
    have hat := okS_at os hw hp
    have key := gone_same hat.1 hat.2.1 hat.2.2
    have l1 : (steppd (h0.take i) (s0.take i)).length ≤ 5 := by
      rw [step_length]
      · rw [List.length_take]; omega
      · rw [List.length_take, List.length_take]; omega
    have fin : k [.own (.d (houD h0)), .own (.d (stD s0)), .own (.ls ((steppd (h0.take i) (s0.take i)).map posD ++ [posD ((p.1 + p.2) % w.lg, p.2)])), .un, .un, .un, .un, .un] := by
      refine hk _ ?_
      rw [step_take i h0 s0 w p hw hp, List.map_append]
      rfl
    rw [← key] at fin
    simp only [Wkr.d, posD] at fin ⊢
    walk_at "pw"
    by_cases c1 : 0 ≤ p.1 + p.2
    · rw [if_pos c1]
      by_cases c2 : p.1 + p.2 < w.lg
      · rw [if_pos c2]
        rw [if_pos ⟨c1, c2⟩] at fin
        exact ⟨by omega, fin⟩
      · rw [if_neg c2]
        rw [if_neg fun z => c2 z.2] at fin
        refine ⟨by omega, ?_⟩
        by_cases c3 : p.2 = 1
        · rw [if_pos c3] at fin ⊢; exact fin
        · rw [if_neg c3] at fin ⊢; exact fin
    · rw [if_neg c1]
      rw [if_neg fun z => c1 z.1] at fin
      refine ⟨by omega, ?_⟩
      by_cases c3 : p.2 = 1
      · rw [if_pos c3] at fin ⊢; exact fin
      · rw [if_neg c3] at fin ⊢; exact fin
theorem p_law_beat (ss : List Slot) (R : T → List Slot → Prop) (hl : ss.length = 2) (h : S_law_beat ss R) : tf_law_beat { nx := fun ρ => R (.d .none) (finS [] 2 ρ), rt := fun t ρ => R t (finS [] 2 ρ) } (ss ++ List.replicate 0 .un) := by
  obtain ⟨h0, s0, rfl, ok, os, h⟩ := h
  have hs := okS_length os
  simp only [tf_law_beat]
  walk_at "pw"
  refine ⟨h0, s0, rfl, ok, os, fun fin => ?_⟩
  walk_at "pw"
  refine ⟨h0, steppd h0 s0, rfl, ok, step_length _ _ hs, fun fin => ?_⟩
  rw [rung_same ok (step_length _ _ hs)]
  walk_at "pw"
  exact h _
theorem p_beaten (ss : List Slot) (R : T → List Slot → Prop) (hl : ss.length = 3) (h : S_beaten ss R) : tf_beaten { nx := fun ρ => R (.d .none) (finS [] 3 ρ), rt := fun t ρ => R t (finS [] 3 ρ) } (ss ++ List.replicate 1 .un) := by
  obtain ⟨h0, s0, m, rfl, ok, os, m0, m1, h⟩ := h
  simp only [tf_beaten, tf_beaten_1]
  walk_at "pw"
  refine ⟨⟨by omega, by omega⟩, ?_⟩
  refine lp_at (fun i ρ => ρ = [.own (.d (houD h0)), .own (.d (stD (beatN h0 i s0))), .own (.d (.int m)), .un]) rfl ?_ ?_
  · rintro ρ rfl
    rw [upto_length]
    walk_at "pw"
    exact h _
  · rintro i x ρ k hx rfl hk
    obtain ⟨hi, rfl⟩ := upto_at hx
    have oi := okS_beatN ok os i
    have hs := okS_length oi
    walk_at "pw"
    refine ⟨h0, beatN h0 i s0, rfl, ok, hs, fun fin => ?_⟩
    walk_at "pw"
    refine ⟨h0, _, rfl, ok, step_length _ _ hs, fun fin => ?_⟩
    walk_at "pw"
    exact hk _ rfl
theorem walk_snoc (h : List Wkr) (s : Stg) (n : Nat) : walkM h s (n + 1) = walkM h s n ++ [beatN h (n + 1) s] := by
  unfold walkM
  rw [List.range_succ, List.map_append]
  rfl
theorem walk_length (h : List Wkr) (s : Stg) (n : Nat) : (walkM h s n).length = n + 1 := by unfold walkM; rw [List.length_map, List.length_range]
theorem walk_last (h : List Wkr) (s : Stg) (n : Nat) : atI ((walkM h s n).map stD) (-1) = some (stD (beatN h n s)) := by
  cases n with
  | zero => rfl
  | succ n => rw [walk_snoc, List.map_append]; exact atI_neg1
theorem walk_at_k (h : List Wkr) (s : Stg) (n : Nat) {k : Int} (k0 : 0 ≤ k) (k1 : k ≤ n) : atI ((walkM h s n).map stD) k = some (stD (beatN h k.toNat s)) := by
  refine atI_of k0 ?_
  unfold walkM
  rw [List.map_map, List.getElem?_map, List.getElem?_range (by omega)]
  rfl
theorem p_law_walk (ss : List Slot) (R : T → List Slot → Prop) (hl : ss.length = 3) (h : S_law_walk ss R) : tf_law_walk { nx := fun ρ => R (.d .none) (finS [] 3 ρ), rt := fun t ρ => R t (finS [] 3 ρ) } (ss ++ List.replicate 2 .un) := by
  obtain ⟨h0, s0, m, rfl, ok, os, m0, m1, h⟩ := h
  simp only [tf_law_walk, tf_law_walk_1, tf_law_walk_2]
  walk_at "pw"
  refine ⟨⟨by omega, by omega⟩, ?_⟩
  refine lp_at (fun i ρ => ρ = [.own (.d (houD h0)), .own (.d (stD s0)), .own (.d (.int m)), .own (.ls ((walkM h0 s0 i).map stD)), .un]) rfl ?_ ?_
  · rintro ρ rfl
    rw [upto_length]
    walk_at "pw"
    exact h _
  · rintro i x ρ k hx rfl hk
    obtain ⟨hi, rfl⟩ := upto_at hx
    have oi := okS_beatN ok os i
    walk_at "pw"
    rw [walk_last]
    refine ⟨h0, beatN h0 i s0, rfl, ok, oi, fun fin => ?_⟩
    walk_at "pw"
    refine ⟨by rw [walk_length]; omega, hk _ ?_⟩
    rw [walk_snoc, List.map_append]
    rfl
theorem p_passed (ss : List Slot) (R : T → List Slot → Prop) (hl : ss.length = 3) (h : S_passed ss R) : tf_passed { nx := fun ρ => R (.d .none) (finS [] 3 ρ), rt := fun t ρ => R t (finS [] 3 ρ) } (ss ++ List.replicate 2 .un) := by
  obtain ⟨h0, s0, m, rfl, ok, os, m0, m1, h⟩ := h
  simp only [tf_passed, tf_passed_1, tf_passed_2]
  walk_at "pw"
  refine ⟨⟨by omega, by omega⟩, ?_⟩
  refine lp_at (fun i ρ => ρ = [.own (.d (houD h0)), .own (.d (stD s0)), .own (.d (.int m)), .own (.ls ((walkM h0 s0 i).map stD)), .un]) rfl ?_ ?_
  · rintro ρ rfl
    rw [upto_length]
    walk_at "pw"
    exact h _
  · rintro i x ρ k hx rfl hk
    obtain ⟨hi, rfl⟩ := upto_at hx
    have oi := okS_beatN ok os i
    walk_at "pw"
    rw [walk_last]
    simp only [scal]
    walk_at "pw"
    refine ⟨h0, beatN h0 i s0, 1, rfl, ok, oi, by omega, by omega, fun fin => ?_⟩
    walk_at "pw"
    refine ⟨by rw [walk_length]; omega, hk _ ?_⟩
    rw [walk_snoc, List.map_append]
    rfl
theorem p_hearing (ss : List Slot) (R : T → List Slot → Prop) (hl : ss.length = 3) (h : S_hearing ss R) : tf_hearing { nx := fun ρ => R (.d .none) (finS [] 3 ρ), rt := fun t ρ => R t (finS [] 3 ρ) } (ss ++ List.replicate 1 .un) := by
  obtain ⟨h0, s0, m, rfl, ok, os, m0, m1, h⟩ := h
  simp only [tf_hearing]
  walk_at "pw"
  refine ⟨h0, s0, m, rfl, ok, os, m0, m1, fun fin => ?_⟩
  walk_at "pw"
  refine lpC_at (fun j acc ρ => acc = ((walkM h0 s0 m.toNat).take j).map (fun x => strsD (rowOf h0 x)) ∧ ρ = [.own (.d (houD h0)), .own (.d (stD s0)), .own (.d (.int m)), .un]) ⟨by simp, rfl⟩ (by rw [List.length_map, walk_length, sizeLine_eq]; omega) ?_ ?_
  · rintro acc ρ ⟨rfl, rfl⟩
    rw [List.length_map, List.take_length]
    walk_at "pw"
    exact h _
  · rintro j x acc ρ k1 k2 hx ⟨rfl, rfl⟩ h1 h2
    obtain ⟨st, hst, rfl⟩ := map_at hx
    have o : OkS h0 st := by
      obtain ⟨i, _, rfl⟩ := List.mem_map.mp (List.mem_of_getElem? hst)
      exact okS_beatN ok os i
    walk_at "pw"
    refine ⟨h0, st, rfl, ok, okS_length o, fun ys fin p so => ?_⟩
    walk_at "pw"
    rw [srt_eq p so]
    refine h1 _ _ ⟨?_, rfl⟩
    rw [List.take_add_one, hst, List.map_append]
    rfl
theorem p_back (ss : List Slot) (R : T → List Slot → Prop) (hl : ss.length = 3) (h : S_back ss R) : tf_back { nx := fun ρ => R (.d .none) (finS [] 3 ρ), rt := fun t ρ => R t (finS [] 3 ρ) } (ss ++ List.replicate 0 .un) := by
  obtain ⟨h0, s0, m, rfl, ok, os, m0, m1, h⟩ := h
  simp only [tf_back]
  walk_at "pw"
  refine ⟨h0, s0, rfl, ok, okS_length os, fun fin => ?_⟩
  walk_at "pw"
  refine ⟨h0, mirM h0 s0, m, rfl, ok, okS_mir os, m0, m1, fun fin => ?_⟩
  walk_at "pw"
  refine ⟨h0, _, rfl, ok, okS_length (okS_beatN ok (okS_mir os) _), fun fin => ?_⟩
  walk_at "pw"
  exact h _
def soundL : D → Option D
  | .tuple (.str z :: _) => if z = "" then none else some (.str z)
  | _ => none
theorem p_law_heard (ss : List Slot) (R : T → List Slot → Prop) (hl : ss.length = 2) (h : S_law_heard ss R) : tf_law_heard { nx := fun ρ => R (.d .none) (finS [] 2 ρ), rt := fun t ρ => R t (finS [] 2 ρ) } (ss ++ List.replicate 2 .un) := by
  obtain ⟨h0, s0, rfl, ok, hs, h⟩ := h
  have few := ok.few
  simp only [tf_law_heard]
  walk_at "pw"
  refine ⟨h0, s0, rfl, ok, hs, fun fin => ?_⟩
  walk_at "pw"
  have hz : (here h0 s0).length ≤ h0.length := here_length ok.one
  refine lpC_fm soundL (by rw [List.length_map, sizeLine_eq]; omega) ?_ ?_
  · have e : ∀ bs : List Bel, (bs.map hereD).filterMap soundL = (soundsOf bs).map .str := by
      intro bs
      unfold soundsOf
      induction bs with
      | nil => rfl
      | cons b bs ih =>
        rw [List.map_cons, List.filterMap_cons, List.map_cons, List.filter_cons, ih]
        by_cases e : b.sd = ""
        · simp [hereD, soundL, e]
        · simp [hereD, soundL, e]
    rw [e]
    walk_at "pw"
    have l1 : (soundsOf (here h0 s0)).length ≤ 5 := by
      unfold soundsOf
      have := List.length_filter_le (fun z : Str => decide (z ≠ "")) ((here h0 s0).map Bel.sd)
      rw [List.length_map] at this
      omega
    refine ⟨_, _, rfl, rfl, by omega, fun ys hp hsrt => ?_⟩
    refine ⟨_, _, rfl, rfl, ?_, ?_⟩
    · rw [List.length_map, hp.length_eq, sizeLine_eq]; omega
    · rw [srt_eq hp hsrt]; exact h _
  · intro x k1 k2 hx hy hn
    obtain ⟨b, hb, rfl⟩ := List.mem_map.mp hx
    simp only [hereD] at hy hn ⊢
    walk_at "pw"
    by_cases e : b.sd = ""
    · rw [if_neg (by simp [e])]
      exact hn (by simp [soundL, e])
    · rw [if_pos (by simp [e])]
      exact hy _ (by simp [soundL, e])
end PW
end HmBP
section HmC
set_option maxRecDepth 100000
set_option maxHeartbeats 1000000
/-! HmC: the mathematics of beats and mirrors: there and back. -/
namespace PW
open PySem L2
open PyProof.Rows hiding St
theorem turnd_twice (a : List Str) : ∀ {h : List Wkr} {s : Stg}, s.length = h.length → turnd a h (turnd a h s) = s
  | [], [], _ => rfl
  | [], _ :: _, e => by simp at e
  | _ :: _, [], e => by simp at e
  | w :: h, p :: s, e => by
    simp only [turnd, turnd_twice (h := h) (s := s) a (by simpa using e)]
    congr 1
    refine Prod.ext rfl ?_
    dsimp only
    by_cases h1 : w.nm ∈ a <;> simp [h1]
theorem turnd_comm (a b : List Str) : ∀ (h : List Wkr) (s : Stg), turnd a h (turnd b h s) = turnd b h (turnd a h s)
  | [], s => by simp [turnd]
  | w :: h, [] => by simp [turnd]
  | w :: h, p :: s => by
    simp only [turnd, turnd_comm a b h s]
    congr 1
    refine Prod.ext rfl ?_
    dsimp only
    by_cases h1 : w.nm ∈ a <;> by_cases h2 : w.nm ∈ b <;> simp [h1, h2]
theorem rung_rung {h : List Wkr} {s : Stg} (e : s.length = h.length) : rungM h (rungM h s) = s := by
  unfold rungM
  rw [oddly_turnd, turnd_twice _ e]
theorem rung_turnd (a : List Str) (h : List Wkr) (s : Stg) : rungM h (turnd a h s) = turnd a h (rungM h s) := by
  unfold rungM
  rw [oddly_turnd, turnd_comm]
theorem step_back (a : List Str) : ∀ {h : List Wkr} {s : Stg}, (∀ w ∈ h, w.nm ∈ a) → OkS h s → steppd h (turnd a h (steppd h s)) = turnd a h s
  | [], [], _, _ => rfl
  | [], _ :: _, _, o => o.elim
  | _ :: _, [], _, o => o.elim
  | w :: h, p :: s, ha, ⟨a0, a1, a2, o⟩ => by
    simp only [steppd, turnd, step_back (h := h) (s := s) a (fun v hv => ha v (by simp [hv])) o]
    have hm := ha w (by simp)
    rw [if_pos hm]
    congr 1
    refine Prod.ext ?_ rfl
    dsimp only
    rw [Int.emod_add_emod]
    have : p.1 + p.2 + -p.2 = p.1 := by omega
    rw [this, Int.emod_eq_of_lt a0 a1]
theorem mem_names {h : List Wkr} : ∀ w ∈ h, w.nm ∈ names h := fun w hw => List.mem_map.mpr ⟨w, hw, rfl⟩
theorem beat_mir {h : List Wkr} {s : Stg} (o : OkS h s) : beatM h (mirM h (beatM h s)) = mirM h s := by
  have e1 := okS_length o
  have e2 := step_length h s e1
  unfold mirM beatM
  rw [rung_rung e2, step_back _ mem_names o, rung_turnd]
theorem beatN_succ' (h : List Wkr) (n : Nat) (s : Stg) : beatN h (n + 1) s = beatN h n (beatM h s) := by
  induction n with
  | zero => rfl
  | succ n ih =>
    show beatM h (beatN h (n + 1) s) = _
    rw [ih]
    rfl
theorem beatN_add (h : List Wkr) (a b : Nat) (s : Stg) : beatN h (a + b) s = beatN h a (beatN h b s) := by
  induction a with
  | zero => rw [Nat.zero_add]; rfl
  | succ a ih =>
    have e : a + 1 + b = (a + b) + 1 := by omega
    rw [e]
    show beatM h (beatN h (a + b) s) = _
    rw [ih]
    rfl
theorem beatN_mir {h : List Wkr} {s : Stg} (ok : OkH h) (o : OkS h s) : ∀ n, beatN h n (mirM h (beatN h n s)) = mirM h s
  | 0 => rfl
  | n + 1 => by
    rw [beatN_succ']
    show beatN h n (beatM h (mirM h (beatM h (beatN h n s)))) = _
    rw [beat_mir (okS_beatN ok o n), beatN_mir ok o n]
theorem beatN_mir_le {h : List Wkr} {s : Stg} (ok : OkH h) (o : OkS h s) {k m : Nat} (hk : k ≤ m) : beatN h k (mirM h (beatN h m s)) = mirM h (beatN h (m - k) s) := by
  have e : m = k + (m - k) := by omega
  rw [show beatN h m s = beatN h k (beatN h (m - k) s) by rw [← beatN_add]; congr 1]
  exact beatN_mir ok (okS_beatN ok o _) k
theorem mirmir {h : List Wkr} {s : Stg} (o : OkS h s) : mirM h (mirM h s) = s := mir_mir (okS_length o)
theorem row_mir (h : List Wkr) (s : Stg) : rowOf h (mirM h s) = rowOf h s := by unfold rowOf; rw [here_mir]
theorem walk_rev {h : List Wkr} {s : Stg} (ok : OkH h) (o : OkS h s) (m : Nat) : ((walkM h (mirM h (beatN h m s)) m).map fun x => strsD (rowOf h x)).reverse = (walkM h s m).map fun x => strsD (rowOf h x) := by
  refine List.ext_getElem (by simp [walk_length]) fun i h1 h2 => ?_
  rw [List.length_map, walk_length] at h2
  rw [List.getElem_reverse, List.getElem_map, List.getElem_map]
  simp only [walkM, List.getElem_map, List.getElem_range, List.length_map, List.length_range]
  have e : m + 1 - 1 - i = m - i := by omega
  rw [e, beatN_mir_le ok o (by omega), row_mir]
  congr 3
  omega
theorem ne_st {s : Stg} (hc : (!PyData.eqv (stD s) (stD s)) = true) : False := by rw [eqv_st] at hc; cases hc
theorem rows_ok {h : List Wkr} (ok : OkH h) (s : Stg) : ∀ z ∈ rowOf h s, PyData.strOk z = true := fun z hz => by
  unfold rowOf srt at hz
  split at hz
  · rename_i hx
    exact sounds_ok ok z ((Classical.choose_spec hx).1.subset hz)
  · exact sounds_ok ok z hz
theorem canLay_rows {h : List Wkr} (ok : OkH h) : ∀ l : List Stg, PyData.canLayAll0 (l.map fun x => strsD (rowOf h x)) = true
  | [] => rfl
  | x :: l => by
    rw [List.map_cons]; unfold PyData.canLayAll0; rw [canLay_rows ok l]
    unfold strsD
    simp only [PyData.canLay0]
    rw [canLay_str _ (rows_ok ok x)]; rfl
theorem depth_rows {h : List Wkr} : ∀ l : List Stg, PyData.depthAll (l.map fun x => strsD (rowOf h x)) ≤ 1
  | [] => by simp [PyData.depthAll]
  | x :: l => by
    have := depth_rows (h := h) l
    have := depth_str (rowOf h x)
    have e : PyData.depth (strsD (rowOf h x)) ≤ 1 := by simp only [PyData.depth, strsD]; omega
    simp only [List.map_cons, PyData.depthAll]
    omega
theorem shaped_rows {h : List Wkr} (ok : OkH h) (l : List Stg) : SeqAt.shaped (.list (l.map fun x => strsD (rowOf h x))) = true := by
  have h2 : PyData.depth (.list (l.map fun x => strsD (rowOf h x))) ≤ 64 := by have := depth_rows (h := h) l; simp only [PyData.depth]; omega
  show (PyData.canLay0 _ && decide (PyData.depth (.list (l.map fun x => strsD (rowOf h x))) ≤ 64)) = true
  rw [Bool.and_eq_true]
  exact ⟨by simp only [PyData.canLay0]; exact canLay_rows ok l, decide_eq_true h2⟩
theorem eqvAll_rows {h : List Wkr} : ∀ l : List Stg, PyData.eqvAll (l.map fun x => strsD (rowOf h x)) (l.map fun x => strsD (rowOf h x)) = true
  | [] => rfl
  | x :: l => by
    rw [List.map_cons]
    unfold PyData.eqvAll
    rw [eqvAll_rows l, eqv_strs]
    rfl
theorem eqv_rows {h : List Wkr} (l : List Stg) : PyData.eqv (.list (l.map fun x => strsD (rowOf h x))) (.list (l.map fun x => strsD (rowOf h x))) = true := by unfold PyData.eqv; exact eqvAll_rows l
end PW
end HmC
section PwJ
set_option maxRecDepth 100000
/-! PwJ: exceptions: own classes whose __init__ says B.__init__(self, text) and stores fields; raise; defs that raise. -/
namespace PW
open PySem PySem.Spec L2
open PyProof.Rows hiding St
/-! ### B.__init__(self, ..), B a class of the program that takes ValueError's -/
section
variable {X : Cx} {e : Expr} {es : List Expr} {ta : TA} {p1 p2 pos : Pos} {x : Str} {CT : Addr} {mc : Value}
theorem pe_tinit {pl : Sem Bool} (hg : Gl X x) (hm : X.mg x = some (.ref CT)) (ga : PySem.W.specialIn X.K (.ref CT) "__getattribute__" = some (some (.builtin "type.__getattribute__"))) (rd : PySem.W.readsIn X.K CT mc = true)
    (vV : PySem.W.findCls X.K (.ref CT) mc "__init__" = some (.val (.builtin "ValueError.__init__"))) (ha : PA X (e :: es) ta)
    (hc : eval (.Call (.Attribute (.Name x p1) "__init__" p2) (e :: es) [] pos) X.env = (do
      let ov ← eval (.Name x p1) X.env
      standAt p2.atName
      let (f, first) ← holding [ov] (getMethod ov "__init__" pl)
      callWith pos f first (backTo pos (starEach (e :: es) X.env)) (backToKw pos (keywordEach [] X.env))) := by rfl)
    (hdb : (x == ("__debug__" : Str)) = false := by decide)
    (he : starEach (e :: es) X.env = (false, eval e X.env) :: starEach es X.env := by rfl) (hpl : (backTo pos (starEach es X.env)).any (·.1) = false := by rfl) :
    PE X (.Call (.Attribute (.Name x p1) "__init__" p2) (e :: es) [] pos) (tVeI X.K ta) := by
  refine ⟨fun pins s σ H Q I h => ?_⟩
  refine PySem.W.methodCall_KW (ld_glob I hg hm ?_ hdb) hc
  refine PySem.W.method_cls I.kIn ga (PySem.W.cls_value I.kIn rd vV (by decide +kernel) ?_)
  show wpAny _ _ (callWith pos (Value.builtin "ValueError.__init__") [] (backTo pos (starEach (e :: es) X.env)) []) _ _ _
  refine PyProof.Rows.callWith_method1 (thn (ha.run pos pins _ σ H _ (I.tok _) h) fun us s1 ⟨vs, H1, I1, r1, a, C, ws, ev, hl, T, ea, q⟩ => ?_) he hpl
  subst ev
  cases r1 with
  | @cons _ u0 _ ur ra rw' =>
    obtain rfl : u0 = Value.ref a := ra
    have hlen : ur.length ≤ sizeLine := by
      rw [← Paired.length rw', sizeLine_eq]
      omega
    exact oinit_ok T I1 ea hlen fun s' J => ⟨.non, H1, J, rfl, q⟩
end
/-- what such an __init__ does: fl its fields, in the order of its parameters -/
def spIn (K : PySem.W.Frag) (C : Addr) (fl : List Str) : Sp := fun vs H Q _ => ∃ (a : Addr) (ds : List V), vs = .ref a :: ds ∧ ds.length = fl.length ∧ OexC K C ∧ (∀ f ∈ fl, PySem.W.findIn K (.ref C) f = some none) ∧ H a = some (exo a C none) ∧
  ∀ d H', H d = none → d ≠ a → H' a = some (exo a C (some d)) → H' d = some (exd d (fl.zip ds).reverse) → (∀ b, b ≠ a → b ≠ d → H' b = H b) → Q .non H'
section
variable {X : Cx} {st : Stmt} {p1 p2 q1 q2 q3 q4 a1 a2 a3 a4 b1 b2 b3 b4 c1 c2 c3 c4 : Pos} {x m f1 f2 f3 : Str} {CT C : Addr} {mc : Value} {j : Nat}
variable {Pg : Program} {w : World} {K : PySem.W.Frag} {mg : Str → Option Value} {base : Heap}
theorem init_ok1 {qual : Str} {fI : Addr} {fd : FuncData} (F : Fun K "__init__" qual st fI fd) (sc : FnScope ["self", f1] ["self", f1] (defScope st))
    (hb : ∀ (cdv : Value) (A : Around) (outer : List Env) (s : Shared) (H : Hp) (E : XK), PSs (cxOf CX0 Pg w K mg base ["self", f1] qual (defScope st) fI cdv A outer s H E).nox (defBody st) (fun D σ H => tVeI K (tCons (tVar 0) (tCons (tC (.str m)) tNil)) σ H fun _ H1 => tOst K f1 (tVar 0) (tVar 1) (D) σ H1)) :
    FnOk Pg w K mg base CX0 1 fI fd ["self", f1] (spIn K C [f1]) := by
  refine F.ok sc (fun vs H Q E h => by obtain ⟨a, ds, e, hl, _⟩ := h; rw [e, List.length_cons, hl]; rfl) (fun cdv A outer s H vs Q E hr h => ?_)
  obtain ⟨a, ds, rfl, hl, T, hf, ea, q⟩ := h
  obtain ⟨y1, rfl⟩ : ∃ y1, ds = [y1] := by
    match ds, hl with
    | [y1], _ => exact ⟨y1, rfl⟩
  refine ⟨_, hb cdv A outer s H E, ?_⟩
  refine ⟨_, rfl, a, C, [.str m], rfl, by simp, T, ea, ?_⟩
  refine ⟨y1, rfl, _, rfl, a, C, rfl, T, hf f1 (by simp), .inl ⟨ea, fun dx hd ne => ?_⟩⟩
  refine q dx _ hd ne ?_ ?_ fun b h1 h2 => ?_
  · exact upd_same
  · rw [upd_ne ne]; exact upd_same
  · rw [upd_ne h1, upd_ne h2]
theorem init_ok2 {qual : Str} {fI : Addr} {fd : FuncData} (F : Fun K "__init__" qual st fI fd) (sc : FnScope ["self", f1, f2] ["self", f1, f2] (defScope st))
    (hb : ∀ (cdv : Value) (A : Around) (outer : List Env) (s : Shared) (H : Hp) (E : XK), PSs (cxOf CX0 Pg w K mg base ["self", f1, f2] qual (defScope st) fI cdv A outer s H E).nox (defBody st) (fun D σ H => tVeI K (tCons (tVar 0) (tCons (tC (.str m)) tNil)) σ H fun _ H1 => tOst K f1 (tVar 0) (tVar 1) ({ D with nx := fun σ H => tOst K f2 (tVar 0) (tVar 2) (D) σ H }) σ H1)) :
    FnOk Pg w K mg base CX0 1 fI fd ["self", f1, f2] (spIn K C [f1, f2]) := by
  refine F.ok sc (fun vs H Q E h => by obtain ⟨a, ds, e, hl, _⟩ := h; rw [e, List.length_cons, hl]; rfl) (fun cdv A outer s H vs Q E hr h => ?_)
  obtain ⟨a, ds, rfl, hl, T, hf, ea, q⟩ := h
  obtain ⟨y1, y2, rfl⟩ : ∃ y1 y2, ds = [y1, y2] := by
    match ds, hl with
    | [y1, y2], _ => exact ⟨y1, y2, rfl⟩
  refine ⟨_, hb cdv A outer s H E, ?_⟩
  refine ⟨_, rfl, a, C, [.str m], rfl, by simp, T, ea, ?_⟩
  refine ⟨y1, rfl, _, rfl, a, C, rfl, T, hf f1 (by simp), .inl ⟨ea, fun dx hd ne => ?_⟩⟩
  refine ⟨y2, rfl, _, rfl, a, C, rfl, T, hf f2 (by simp), .inr ⟨dx, _, upd_same, (by rw [upd_ne ne]; exact upd_same), by simp, ?_⟩⟩
  refine q dx _ hd ne ?_ ?_ fun b h1 h2 => ?_
  · rw [upd_ne (Ne.symm ne)]; exact upd_same
  · exact upd_same
  · rw [upd_ne h2, upd_ne h1, upd_ne h2]
theorem init_ok3 {qual : Str} {fI : Addr} {fd : FuncData} (F : Fun K "__init__" qual st fI fd) (sc : FnScope ["self", f1, f2, f3] ["self", f1, f2, f3] (defScope st))
    (hb : ∀ (cdv : Value) (A : Around) (outer : List Env) (s : Shared) (H : Hp) (E : XK), PSs (cxOf CX0 Pg w K mg base ["self", f1, f2, f3] qual (defScope st) fI cdv A outer s H E).nox (defBody st) (fun D σ H => tVeI K (tCons (tVar 0) (tCons (tC (.str m)) tNil)) σ H fun _ H1 => tOst K f1 (tVar 0) (tVar 1) ({ D with nx := fun σ H => tOst K f2 (tVar 0) (tVar 2) ({ D with nx := fun σ H => tOst K f3 (tVar 0) (tVar 3) (D) σ H }) σ H }) σ H1)) :
    FnOk Pg w K mg base CX0 1 fI fd ["self", f1, f2, f3] (spIn K C [f1, f2, f3]) := by
  refine F.ok sc (fun vs H Q E h => by obtain ⟨a, ds, e, hl, _⟩ := h; rw [e, List.length_cons, hl]; rfl) (fun cdv A outer s H vs Q E hr h => ?_)
  obtain ⟨a, ds, rfl, hl, T, hf, ea, q⟩ := h
  obtain ⟨y1, y2, y3, rfl⟩ : ∃ y1 y2 y3, ds = [y1, y2, y3] := by
    match ds, hl with
    | [y1, y2, y3], _ => exact ⟨y1, y2, y3, rfl⟩
  refine ⟨_, hb cdv A outer s H E, ?_⟩
  refine ⟨_, rfl, a, C, [.str m], rfl, by simp, T, ea, ?_⟩
  refine ⟨y1, rfl, _, rfl, a, C, rfl, T, hf f1 (by simp), .inl ⟨ea, fun dx hd ne => ?_⟩⟩
  refine ⟨y2, rfl, _, rfl, a, C, rfl, T, hf f2 (by simp), .inr ⟨dx, _, upd_same, (by rw [upd_ne ne]; exact upd_same), by simp, ?_⟩⟩
  refine ⟨y3, rfl, _, rfl, a, C, rfl, T, hf f3 (by simp), .inr ⟨dx, _, (by rw [upd_ne (Ne.symm ne)]; exact upd_same), upd_same, by simp, ?_⟩⟩
  refine q dx _ hd ne ?_ ?_ fun b h1 h2 => ?_
  · rw [upd_ne (Ne.symm ne), upd_ne (Ne.symm ne)]; exact upd_same
  · exact upd_same
  · rw [upd_ne h2, upd_ne h2, upd_ne h1, upd_ne h2]
end
/-! ### raise -/
section
variable {K : PySem.W.Frag} {H H' : Hp}
theorem RepFs.append : ∀ {a b : List (Str × D)} {x y : List (Str × V)}, RepFs K H a x → RepFs K H b y → RepFs K H (a ++ b) (x ++ y)
  | [], _, x, _, h, g => by have h : x = [] := h; subst h; exact g
  | p :: a, _, _, _, ⟨v, r, e, h, t⟩, g => by subst e; exact ⟨v, _, rfl, h, RepFs.append t g⟩
theorem RepFs.reverse : ∀ {a : List (Str × D)} {x : List (Str × V)}, RepFs K H a x → RepFs K H a.reverse x.reverse
  | [], x, h => by have h : x = [] := h; subst h; exact rfl
  | p :: a, _, ⟨v, r, e, h, t⟩ => by
    subst e
    rw [List.reverse_cons, List.reverse_cons]
    exact RepFs.append (RepFs.reverse t) ⟨v, [], rfl, h, rfl⟩
theorem RepFs.zip : ∀ {fl : List Str} {ds : List D} {vs : List V}, RepDs K H ds vs → RepFs K H (fl.zip ds) (fl.zip vs)
  | [], _, _, _ => rfl
  | f :: fl, [], vs, h => by have h : vs = [] := h; subst h; exact rfl
  | f :: fl, d :: ds, _, ⟨v, r, e, h, t⟩ => by
    subst e
    exact ⟨v, _, rfl, h, RepFs.zip t⟩
end
/-- whatever the air takes -/
def WAny (X : Cx) : WX := fun cls d σ H => ∃ W : WX, Takes X W ∧ W cls d σ H
theorem takes_any {X : Cx} : Takes X (WAny X) := fun u s' ⟨a, B, sI, pins, σ, H, cls, d, e, I, nb, up, sky, na, os, ag, W, tk, w⟩ =>
  tk u s' ⟨a, B, sI, pins, σ, H, cls, d, e, I, nb, up, sky, na, os, ag, w⟩
/-- a class of exceptions with fields fl -/
structure ClsX (Pg : Program) (w : World) (K : PySem.W.Frag) (mg : Str → Option Value) (base : Heap) (x : Str) (fl : List Str) : Prop where
  ex : ∃ (C fI : Addr) (fd : FuncData) (ps : List Str), OexC K C ∧ PySem.W.findIn K (.ref C) "__init__" = some (some (.ref fI)) ∧ PySem.W.typeIn K (.ref fI) = some (.type "function") ∧ FnOk Pg w K mg base CX0 1 fI fd ps (spIn K C fl) ∧ Binds K fd ps [] ∧ mg x = some (.ref C) ∧ ∀ f ∈ fl, PySem.W.findIn K (.ref C) f = some none
def sRaise (x : Str) (fl : List Str) (fs : TAF) : SF := fun E ρ => fs ρ fun os ρ1 => match dsO os with
  | some ds => ds.length = fl.length ∧ E.xe ⟨x, (fl.zip ds).reverse⟩ ρ1
  | none => False
section
variable {X : Cx} {fx : List Nat} {e : Expr} {es : List Expr} {fs : TAF} {x : Str} {fl : List Str} {p pos pos2 : Pos}
theorem vs_raise {j : Nat} (cl : ClsX X.prog X.w X.K X.mg X.base x fl) (hfl : fl.length ≤ 900) (hc : X.calm = true) (hr : Room j X.A) (hj : 2 ≤ j) (hg : Gl X x) (ha : VA X (e :: es) fs)
    (hdb : (x == ("__debug__" : Str)) = false := by decide) (he : starEach (e :: es) X.env = (false, eval e X.env) :: starEach es X.env := by rfl) (hpl : (backTo pos (starEach es X.env)).any (·.1) = false := by rfl) :
    VS X fx (.Raise (some (.Call (.Name x p) (e :: es) [] pos)) none pos2) (sRaise x fl fs) := by
  obtain ⟨C, fI, fd, ps, T, iC, tI, F, hb, hm, hf⟩ := cl.ex
  refine PS.pwi (ps_raise hc takes_any (pmk_oex T iC tI F (hr.mono hj) hb .nil pass0 hg hm ha hdb he hpl)) fun D σ H ⟨P, ρ, W, E, G, q, k1, k2, k3, k4, k5⟩ => ?_
  refine ⟨P, ρ, W, _, G, q, fun vs H1 os ρ1 r1 h1 => ?_⟩
  obtain ⟨ws, W1, st, nd, sr, rp⟩ := id r1
  split at h1
  · rename_i ds hds
    have rd := dsO_rep hds rp
    have hl : vs.length = fl.length := by rw [rd.length, h1.1]
    refine ⟨by omega, fun a ha' => ⟨a, vs, by simp, hl, T, hf, upd_same, fun d H' hd ne e1 e2 oth => ⟨rfl, d, (fl.zip vs).reverse, e1, e2, ?_, ?_⟩⟩⟩
    · rw [upd_ne ne] at hd; exact hd
    · have hd1 : H1 d = none := by rw [upd_ne ne] at hd; exact hd
      have sm : Same H1 (upd (del H' a) d (.xd (fl.zip vs).reverse)) := fun b o hb => by
        have b1 : b ≠ d := fun z => by rw [z, hd1] at hb; cases hb
        have b2 : b ≠ a := fun z => by rw [z, ha'] at hb; cases hb
        rw [upd_ne b1, del_ne b2, oth b b2 b1, upd_ne b2]
        exact hb
      obtain ⟨ws2, W2, G1, st1, nd1, rp1⟩ := r1.good G
      have rs : ResS X.K P fx H σ W σ (upd (del H' a) d (.xd (fl.zip vs).reverse)) ρ1 :=
        ⟨W2, ⟨fun b o hb hn => sm b o (st1.keep b o hb hn), fun b hb => st1.new b (List.mem_append_right _ hb)⟩, ⟨G1.sr.after (W0 := []) (fun b o h _ => sm b o h) (by simp) (by simp) (by simp), G1.nd, fun b hb => ⟨(G1.ap b hb).1, let ⟨o, e⟩ := (G1.ap b hb).2; ⟨o, sm _ _ e⟩⟩⟩, .refl⟩
      obtain ⟨W0, tk, hW⟩ := k5 _ _ _ _ rs h1.2
      exact ⟨W0, tk, hW _ _ ⟨hm, d, _, rfl, upd_same, (RepFs.zip (rd.keep (Kept.same sm))).reverse⟩⟩
  · exact h1.elim
end
/-! ### a def that raises -/
abbrev FSX := List Slot → (T → List Slot → Prop) → (Exn → Prop) → Prop
def spX (K : PySem.W.Frag) (mg : Str → Option Value) (n : Nat) (S : FSX) : Sp := fun vs H Q E => vs.length = n ∧ ∃ P ss W R Xn, Good K P H ss (vs.map some) W ∧ S ss R Xn ∧
  (∀ r H' t fin ws W', Step W (ws ++ W') H H' → (ws ++ W').Nodup → SR K P H' fin (vs.map some) W' → RepT K H' t r ws → R t fin → Q r H') ∧
  (∀ x cls d H' W', Step W W' H H' → ExRep K mg H' x cls d → Xn x → E cls d H')
section
variable {Pg : Program} {w : World} {K : PySem.W.Frag} {mg : Str → Option Value} {base : Heap}
theorem fn_okX {x qual : Str} {st : Stmt} {f : Addr} {fd : FuncData} {N ps : List Str} {k n : Nat} {S : FSX} {sf : SF} {fx : List Nat} (F : Fun K x qual st f fd) (sc : FnScope N ps (defScope st)) (hn : ps.length = n)
    (hb : ∀ (cdv : Value) (A : Around) (outer : List Env) (s : Shared) (H : Hp) (E : XK), Room k (A.deeper (envOfC qual (defScope st) s.heap.objs.size f cdv)) → VSs (cxOf (CX Pg w) Pg w K mg base N qual (defScope st) f cdv A outer s H E) fx (defBody st) sf)
    (hS : ∀ ss R Xn, ss.length = n → S ss R Xn → sf { nx := fun ρ => R (.d .none) (finS fx n ρ), rt := fun t ρ => R t (finS fx n ρ), xe := fun x _ => Xn x } (ss ++ List.replicate (N.length - n) .un)) : FnOk Pg w K mg base (CX Pg w) (k + 1) f fd ps (spX K mg n S) := by
  obtain ⟨oc, od, kV, doc, pm, an, cdv, ct, osl, rfl, lk, hcd⟩ := F.ex
  refine fn_of lk hcd sc (fun vs H Q E h => by rw [h.1, hn]) fun A outer s H vs Q E hr h => ?_
  obtain ⟨hl, P, ss, W, R, Xn, G, hSS, kR, kX⟩ := h
  refine ⟨_, hb cdv A outer s H E hr, ?_⟩
  have hpl : ps.length ≤ N.length := by have := congrArg List.length sc.pre; rw [List.length_take] at this; omega
  have hss : ss.length = n := by rw [← G.sr.len, List.length_map]; exact hl
  have G0 : Good K P H (ss ++ List.replicate (N.length - n) .un) (L2.start N vs) W := by
    have go : ∀ {ss : List Slot} {σ : St} {W : List Addr} (m : Nat), SR K P H ss σ W → SR K P H (ss ++ List.replicate m .un) (σ ++ List.replicate m none) W := by
      intro ss
      induction ss with
      | nil =>
        rintro σ W m ⟨rfl, rfl⟩
        induction m with
        | zero => exact ⟨rfl, rfl⟩
        | succ m ih => exact ⟨none, _, rfl, ih⟩
      | cons s ss ih =>
        intro σ W m h
        cases s with
        | un => obtain ⟨o, r, rfl, h⟩ := h; exact ⟨o, _, rfl, ih m h⟩
        | own t => obtain ⟨v, r, w1, w2, rfl, q, h, rfl⟩ := h; exact ⟨v, _, w1, w2, rfl, q, ih m h, rfl⟩
        | hid t => obtain ⟨v, r, w, rfl, q, hn, h⟩ := h; exact ⟨v, _, w, rfl, q, hn, ih m h⟩
    refine ⟨?_, G.nd, G.ap⟩
    unfold L2.start
    rw [hl]
    exact go _ G.sr
  have hstart : (L2.start N vs).length = N.length := by
    unfold L2.start
    rw [List.length_append, List.length_map, List.length_replicate]
    omega
  have fin : ∀ {σ' : St} {H' : Hp} {ρ' : List Slot} {W' : List Addr}, SR K P H' ρ' σ' W' → Fx fx (L2.start N vs) σ' → ∃ W1, SR K P H' (finS fx n ρ') (vs.map some) W1 ∧ W1.Sublist W' := fun {σ' H' ρ' W'} sr hx => by
    refine sr.fin (by rw [← sr.len, hx.2, hstart]; omega) (by simpa using hl) fun i hi hlt => ?_
    rw [hx.1 i hi]
    unfold L2.start
    rw [List.getElem?_append_left (by simpa [hl] using hlt)]
  refine ⟨P, _, W, _, G0, hS ss R Xn hss hSS, fun σ' H' ρ' r hR => ?_, fun v H' t ρ' r hR => ?_, fun _ _ _ _ h => h.elim, fun _ _ _ _ h => h.elim, fun x σ' H' ρ' r hX => ?_⟩
  · obtain ⟨W', st, G', hx⟩ := r
    obtain ⟨W1, s1, sb⟩ := fin G'.sr hx
    exact kR .non H' (.d .none) _ [] W1 ⟨st.keep, fun b hb => st.new b (sb.subset (by simpa using hb))⟩ (by simpa using G'.nd.sublist sb) s1 ⟨rfl, rfl⟩ hR
  · obtain ⟨ws, W', σ', st, nd, sr, rp, hx⟩ := r
    obtain ⟨W1, s1, sb⟩ := fin sr hx
    exact kR v H' t _ ws W1 ⟨st.keep, fun b hb => st.new b ((List.Sublist.append (List.Sublist.refl ws) sb).subset hb)⟩ (nd.sublist (List.Sublist.append (List.Sublist.refl ws) sb)) s1 rp hR
  · obtain ⟨W', st, G', hx⟩ := r
    exact ⟨fun cls d _ H => E cls d H, takes_of rfl rfl rfl rfl, fun cls d er => kX x cls d H' W' st er hX⟩
end
end PW
end PwJ
section PwJt
set_option maxRecDepth 100000
/-! PwJt: try .. except C as e around one call that may raise; what a suite asks of e. -/
namespace PW
open PySem PySem.Spec L2
open PyProof.Rows hiding St
/-! ### suites -/
/-- as sO, of statements that let nothing out -/
def sOn (K : PySem.W.Frag) (fx : List Nat) (f : SF) : TS := fun D σ H => ∃ P ρ W E, Good K P H ρ σ W ∧ f E ρ ∧
  (∀ σ' H' ρ', ResS K P fx H σ W σ' H' ρ' → E.nx ρ' → D.nx σ' H') ∧ (∀ v H' t ρ', ResR K P fx H σ W v H' t ρ' → E.rt t ρ' → D.rt v H') ∧
  (∀ σ' H' ρ', ResS K P fx H σ W σ' H' ρ' → E.bk ρ' → D.bk σ' H') ∧ (∀ σ' H' ρ', ResS K P fx H σ W σ' H' ρ' → E.ct ρ' → D.ct σ' H') ∧ ∀ x ρ', ¬ E.xe x ρ'
theorem sOn_sO {X : Cx} {fx : List Nat} {f : SF} {D : Ends} {σ : St} {H : Hp} (h : sOn X.K fx f D σ H) : sO X fx f D σ H := by
  obtain ⟨P, ρ, W, E, G, q, k1, k2, k3, k4, k5⟩ := h
  exact ⟨P, ρ, W, E, G, q, k1, k2, k3, k4, fun x _ _ ρ' _ hx => (k5 x ρ' hx).elim⟩
/-- what the suite does with an exception of this class and dict -/
def tSui (K : PySem.W.Frag) (mg : Str → Option Value) (fx : List Nat) (cm : Str → Bool) (suite : Addr → Addr → Exn → SF) (a : Addr) (cls : Value) (d : Option Addr) : TS := fun D σ H => ∃ (x : Exn) (dd : Addr), d = some dd ∧ cm x.cls = true ∧ mg x.cls = some cls ∧ sOn K fx (suite a dd x) D σ H
theorem sr_vals {K : PySem.W.Frag} {P : Addr → Prop} {H : Hp} : ∀ {ds : List D} {vs : List V}, RepDs K H ds vs → SR K P H (ds.map fun d => .own (.d d)) (vs.map some) []
  | [], vs, h => by have h : vs = [] := h; subst h; exact ⟨rfl, rfl⟩
  | d :: ds, _, ⟨v, r, e, h, t⟩ => by
    subst e
    exact ⟨v, _, [], [], rfl, ⟨h, rfl⟩, sr_vals t, rfl⟩
/-- a slot whose name is unbound -/
theorem SR.wipe {K : PySem.W.Frag} {P : Addr → Prop} {H : Hp} (o : Option V) : ∀ {ρ : List Slot} {σ : St} {W : List Addr} (i : Nat), SR K P H ρ σ W → ∃ W', SR K P H (ρ.set i .un) (σ.set i o) W' ∧ W'.Sublist W
  | [], σ, W, i, h => by
    obtain ⟨e1, e2⟩ : σ = [] ∧ W = [] := h
    subst e1 e2
    exact ⟨[], by simp [SR], by simp⟩
  | .un :: ρ, _, W, 0, ⟨o', r, e, h⟩ => ⟨W, ⟨o, r, by rw [e]; rfl, h⟩, List.Sublist.refl _⟩
  | .own t :: ρ, _, W, 0, ⟨v, r, w1, w2, e, h, t', ew⟩ => ⟨w2, ⟨o, r, by rw [e]; rfl, t'⟩, by rw [ew]; exact List.sublist_append_right _ _⟩
  | .hid t :: ρ, _, W, 0, ⟨v, r, w, e, h, hn, t'⟩ => ⟨W, ⟨o, r, by rw [e]; rfl, t'⟩, List.Sublist.refl _⟩
  | .un :: ρ, _, W, i + 1, ⟨o', r, e, h⟩ => let ⟨W', g, m⟩ := SR.wipe o i h; ⟨W', ⟨o', _, by rw [e]; rfl, g⟩, m⟩
  | .own t :: ρ, _, W, i + 1, ⟨v, r, w1, w2, e, h, t', ew⟩ => let ⟨W', g, m⟩ := SR.wipe o i t'; ⟨w1 ++ W', ⟨v, _, w1, W', by rw [e]; rfl, h, g, rfl⟩, by rw [ew]; exact List.Sublist.append (List.Sublist.refl _) m⟩
  | .hid t :: ρ, _, W, i + 1, ⟨v, r, w, e, h, hn, t'⟩ => let ⟨W', g, m⟩ := SR.wipe o i t'; ⟨W', ⟨v, _, w, by rw [e]; rfl, h, hn, g⟩, m⟩
theorem ResS.wipe {K : PySem.W.Frag} {P : Addr → Prop} {fx : List Nat} {H H1 : Hp} {σ σ1 : St} {W : List Addr} {ρ1 : List Slot} (o : Option V) {i : Nat} (hi : i ∉ fx) (r : ResS K P fx H σ W σ1 H1 ρ1) : ResS K P fx H σ W (σ1.set i o) H1 (ρ1.set i .un) := by
  obtain ⟨W1, st, G1, hx⟩ := r
  obtain ⟨W2, sr, sb⟩ := SR.wipe o i G1.sr
  exact ⟨W2, ⟨st.keep, fun b hb => st.new b (sb.subset hb)⟩, ⟨sr, G1.nd.sublist sb, fun b hb => ⟨fun z => (G1.ap b hb).1 (sb.subset z), (G1.ap b hb).2⟩⟩, hx.set hi⟩
/-! ### try: y = (z, f(..)) except C as e: .. -/
/-- a def that may raise, as it is called -/
structure CalX (Pg : Program) (w : World) (K : PySem.W.Frag) (mg : Str → Option Value) (base : Heap) (k n : Nat) (x : Str) (S : FSX) : Prop where
  ex : ∃ (fa : Addr) (fd : FuncData) (ps : List Str), FnOk Pg w K mg base (CX Pg w) k fa fd ps (spX K mg n S) ∧ mg x = some (.ref fa) ∧ PySem.W.keepIn K (.ref fa) = true ∧ Binds K fd ps []
def sTry (n ie : Nat) (cm : Str → Bool) (S : FSX) (fs : TAF) (good : D → SF) (suite : Addr → Addr → Exn → SF) : SF := fun E ρ => fs ρ fun os ρ1 => match dsO os with
  | some ds => ds.length = n ∧ S (ds.map fun d => .own (.d d)) (fun t _ => match t with
    | .d d => good d E ρ1
    | _ => False) (fun x => cm x.cls = true ∧ ∀ a dd, suite a dd x { nx := fun ρ2 => E.nx (ρ2.set ie .un), rt := E.rt, bk := fun ρ2 => E.bk (ρ2.set ie .un), ct := fun ρ2 => E.ct (ρ2.set ie .un) } (ρ1.set ie (.own (.ex a dd x))))
  | none => False
section
variable {X : Cx} {fx : List Nat} {e : Expr} {es : List Expr} {fs : TAF} {f z x y nm : Str} {p p1 p2 p3 p4 pos pos' np : Pos} {c : Value} {ie iy k n : Nat} {S : FSX} {b₀ : Stmt} {bs : List Stmt} {cm : Str → Bool} {suite : Addr → Addr → Exn → SF}
/-- the call, and what is wanted behind it -/
theorem try_core {De : Ends} {σ : St} {H : Hp} {good : D → SF} {Q : V → Hp → Prop} (hn : X.N.length = σ.length) (hie : ie < X.N.length) (hfe : ie ∉ fx) (hcm : ∀ s cls, X.mg s = some cls → cm s = true → PySem.W.exmOne X.K cls c = some true)
    (h : sO X fx (sTry n ie cm S fs good suite) De σ H)
    (hQ : ∀ (P : Addr → Prop) (ρ : List Slot) (W : List Addr) (E : Es) (ρ1 : List Slot) (H1 H2 : Hp) (W1 : List Addr) (d : D) (v : V), Good X.K P H ρ σ W → Good X.K P H2 ρ1 σ W1 → Step W W1 H H2 → RepD X.K H2 d v → good d E ρ1 →
      (∀ σ' H' ρ', ResS X.K P fx H σ W σ' H' ρ' → E.nx ρ' → De.nx σ' H') → Q v H2) :
    tCallS (spX X.K X.mg n S) (WE (wAs X.K c ie (tSui X.K X.mg fx cm suite) (WAny X) De)) (tAO X.K fs) σ H Q := by
  obtain ⟨P, ρ, W, E, G, q, k1, k2, k3, k4, k5⟩ := h
  refine ⟨P, ρ, W, _, G, q, fun vs H1 os ρ1 r1 h1 => ?_⟩
  have r1' := r1
  obtain ⟨ws, W1', st', nd', sr', rp'⟩ := r1'
  split at h1
  · rename_i ds hds
    obtain ⟨hl, hS⟩ := h1
    have rd := dsO_rep hds rp'
    obtain ⟨ws2, W1, G1, st, nd, rp⟩ := r1.good G
    refine ⟨by rw [rd.length, hl], fun _ => False, _, [], _, _, ⟨sr_vals rd, by simp, fun b hb => hb.elim⟩, hS, ?_, ?_⟩
    · intro r H2 t fin w2 W2 st2 _ _ rt hR
      have sm : Same H1 H2 := fun b o hb => st2.keep b o hb (by simp)
      cases t with
      | d d =>
        have G2 : Good X.K P H2 ρ1 σ W1 := ⟨G1.sr.after (W0 := []) (fun b o h _ => sm b o h) (by simp) (by simp) (by simp), G1.nd, fun b hb => ⟨(G1.ap b hb).1, let ⟨o, e⟩ := (G1.ap b hb).2; ⟨o, sm _ _ e⟩⟩⟩
        exact hQ P ρ W E ρ1 H1 H2 W1 d r G G2 ⟨fun b o hb hn => sm b o (st.keep b o hb hn), fun b hb => st.new b (List.mem_append_right _ hb)⟩ rt.1 hR k1
      | ls _ => exact (show False from hR).elim
      | lt _ => exact (show False from hR).elim
      | dk _ => exact (show False from hR).elim
      | tp _ => exact (show False from hR).elim
      | ex _ _ _ => exact (show False from hR).elim
      | ob _ _ => exact (show False from hR).elim
      | pt _ => exact (show False from hR).elim
    · intro xn cls d H2 W2 st2 er hx
      have sm : Same H1 H2 := fun b o hb => st2.keep b o hb (by simp)
      refine ⟨true, hcm _ _ er.1 hx.1, fun _ a ha => ?_, fun h => by cases h⟩
      obtain ⟨hm, dd, gs, rfl, hd, rf⟩ := er
      refine ⟨xn, dd, rfl, hx.1, hm, ?_⟩
      have G2 : Good X.K P H2 ρ1 σ W1 := ⟨G1.sr.after (W0 := []) (fun b o h _ => sm b o h) (by simp) (by simp) (by simp), G1.nd, fun b hb => ⟨(G1.ap b hb).1, let ⟨o, e⟩ := (G1.ap b hb).2; ⟨o, sm _ _ e⟩⟩⟩
      have rs : ResS X.K P fx H σ W (σ.set ie (some (.ref a))) H2 (ρ1.set ie (.own (.ex a dd xn))) :=
        put_core (ws := []) (W1 := W1) (t := .ex a dd xn) (by simpa using G2.ap) ⟨fun b o hb hn => sm b o (st.keep b o hb hn), fun b hb => st.new b (List.mem_append_right _ (by simpa using hb))⟩ (by simpa using G2.nd) G2.sr ⟨rfl, ⟨gs, hd, rf⟩, rfl⟩ (by omega) hfe .refl
      obtain ⟨W3, G3, c1, c2⟩ := rs.step
      exact ⟨P, _, W3, _, G3, hx.2 a dd, fun σ' H' ρ' r hN => k1 _ _ _ ((c1 _ _ _ r).wipe none hfe) hN, fun _ _ _ _ r hN => k2 _ _ _ _ (c2 _ _ _ _ r) hN, fun σ' H' ρ' r hN => k3 _ _ _ ((c1 _ _ _ r).wipe none hfe) hN, fun σ' H' ρ' r hN => k4 _ _ _ ((c1 _ _ _ r).wipe none hfe) hN, fun _ _ hz => hz⟩
  · exact h1.elim
variable {cx : Str} {j j1 k2 : Nat} {q1 q2 q3 q4 : Pos}
/-- the suites, for the rule -/
theorem sui_ok {a : Addr} {oe : Obj} {cls : Value} {d : Option Addr} {pn : List (Addr × Obj)}
    (hsu : ∀ (a dd : Addr) (xn : Exn) (cls : Value) (oe : Obj) (pn : List (Addr × Obj)), cm xn.cls = true → X.mg xn.cls = some cls → Zc cls (some dd) oe → (∃ vs, oe.data = .fields vs) → VSs (X.suite a ((a, oe) :: pn)) fx (b₀ :: bs) (suite a dd xn))
    (hz : Zc cls d oe) (hd : ∃ vs, oe.data = .fields vs) : PSs (X.suite a ((a, oe) :: pn)) (b₀ :: bs) (tSui X.K X.mg fx cm suite a cls d) :=
  ⟨fun pins s σ H De I ⟨xn, dd, e1, hc, hm, h⟩ => by
    subst e1
    exact (hsu a dd xn cls oe pn hc hm hz hd).run pins s σ H De I (sOn_sO (X := X.suite a ((a, oe) :: pn)) h)⟩
theorem vs_tryA (hs : X.stack = X.env :: X.outer) (hf : X.env.frame = some X.env.locals) (hN : X.N.Nodup) (hi : X.N[ie]? = some nm) (hln : X.env.kindOf nm = some .local) (hfe : ie ∉ fx) (hcN : Names X cx c)
    (hcm : ∀ s cls, X.mg s = some cls → cm s = true → PySem.W.exmOne X.K cls c = some true) (cl : CalX X.prog X.w X.K X.mg X.base k n x S) (hr : Room j X.A) (hk : k ≤ j) (hg : Gl X x) (ha : ∀ (pn : List (Addr × Obj)) (xe : Value → Shared → Prop), VA (X.tr pn xe) (e :: es) fs)
    (hsu : ∀ (a dd : Addr) (xn : Exn) (cls : Value) (oe : Obj) (pn : List (Addr × Obj)), cm xn.cls = true → X.mg xn.cls = some cls → Zc cls (some dd) oe → (∃ vs, oe.data = .fields vs) → VSs (X.suite a ((a, oe) :: pn)) fx (b₀ :: bs) (suite a dd xn))
    (hy : X.N[iy]? = some y) (hfy : iy ∉ fx) (hpg : ∀ (pn : List (Addr × Obj)) (xe : Value → Shared → Prop), PG (X.tr pn xe) (.Name y p1) (gName iy))
    (hdb : (x == ("__debug__" : Str)) = false := by decide) (he : starEach (e :: es) X.env = (false, eval e X.env) :: starEach es X.env := by rfl) (hpl : (backTo p2 (starEach es X.env)).any (·.1) = false := by rfl)
    (h1 : starEach [.Constant (.str z) j1 q1, .Call (.Name x p) (e :: es) [] p2] X.env = (false, eval (.Constant (.str z) j1 q1) X.env) :: starEach [.Call (.Name x p) (e :: es) [] p2] X.env := by rfl)
    (h2 : starEach [.Call (.Name x p) (e :: es) [] p2] X.env = (false, eval (.Call (.Name x p) (e :: es) [] p2) X.env) :: starEach [] X.env := by rfl)
    (hsw : swapsWithSole [.Name y p1] (.Tuple [.Constant (.str z) j1 q1, .Call (.Name x p) (e :: es) [] p2] k2 q2) p3.line X.env = pure false := by rfl) (hw : swappedStores [.Name y p1] (.Tuple [.Constant (.str z) j1 q1, .Call (.Name x p) (e :: es) [] p2] k2 q2) X.env = pure none := by rfl)
    (h3 : (assignEach [.Name y p1] X.env).map (·.2) = [assign (.Name y p1) X.env] := by rfl) :
    VS X fx (.Try [.Assign [.Name y p1] (.Tuple [.Constant (.str z) j1 q1, .Call (.Name x p) (e :: es) [] p2] k2 q2) p3] [.ExceptHandler (some (.Name cx np)) (some nm) (b₀ :: bs) pos'] [] [] pos)
      (sTry n ie cm S fs (fun d E ρ1 => E.nx (ρ1.set iy (.own (.d (.tuple [.str z, d]))))) suite) := by
  obtain ⟨fa, fd, ps, F, hm, hk', hb⟩ := cl.ex
  refine PS.pwI (ps_try_as hs hf hN hi hln hcN takes_any (fun W pn xe tk hp => pss_cons (ps_asg (pe_tup (pa_cons pe_str (pa_cons (pe_callS (X := X.tr pn xe) (t := tAO X.K fs) F (hr.mono hk) hg hm hk' hb (passAt tk) (ha pn xe) hdb he hpl) pa_nil h2) h1)) (hpg pn xe) hsw hw h3) pss_nil) fun a oe cls d pn hz hd => sui_ok hsu hz hd) fun pins s De σ H I h => ?_
  have li : iy < σ.length := by rw [I.len]; exact (List.getElem?_eq_some_iff.mp hy).1
  refine try_core I.len.symm (List.getElem?_eq_some_iff.mp hi).1 hfe hcm h fun P ρ W E ρ1 H1 H2 W1 d v G G2 st rd hgd k1 => ?_
  refine ⟨by show 2 ≤ sizeLine; decide, fun p hp => ?_⟩
  have sm : Same H2 (upd H2 p (.tup [.str z, v])) := same_upd hp
  have G3 : Good X.K P (upd H2 p (.tup [.str z, v])) ρ1 σ W1 := ⟨G2.sr.after (W0 := []) (fun b o h _ => sm b o h) (by simp) (by simp) (by simp), G2.nd, fun b hb => ⟨(G2.ap b hb).1, let ⟨o, e⟩ := (G2.ap b hb).2; ⟨o, sm _ _ e⟩⟩⟩
  have rt : RepT X.K (upd H2 p (.tup [.str z, v])) (.d (.tuple [.str z, d])) (.ref p) [] := ⟨⟨p, [.str z, v], rfl, .inl (.inl upd_same), .str z, [v], rfl, rfl, v, [], rfl, rd.keep (Kept.same sm), rfl⟩, rfl⟩
  exact k1 _ _ _ (put_core (ws := []) (W1 := W1) (by simpa using G3.ap) ⟨fun b o hb hn => sm b o (st.keep b o hb hn), fun b hb => st.new b (by simpa using hb)⟩ (by simpa using G3.nd) G3.sr rt li hfy .refl) hgd
theorem vs_tryE (hs : X.stack = X.env :: X.outer) (hf : X.env.frame = some X.env.locals) (hN : X.N.Nodup) (hi : X.N[ie]? = some nm) (hln : X.env.kindOf nm = some .local) (hfe : ie ∉ fx) (hcN : Names X cx c)
    (hcm : ∀ s cls, X.mg s = some cls → cm s = true → PySem.W.exmOne X.K cls c = some true) (cl : CalX X.prog X.w X.K X.mg X.base k n x S) (hr : Room j X.A) (hk : k ≤ j) (hg : Gl X x) (ha : ∀ (pn : List (Addr × Obj)) (xe : Value → Shared → Prop), VA (X.tr pn xe) (e :: es) fs)
    (hsu : ∀ (a dd : Addr) (xn : Exn) (cls : Value) (oe : Obj) (pn : List (Addr × Obj)), cm xn.cls = true → X.mg xn.cls = some cls → Zc cls (some dd) oe → (∃ vs, oe.data = .fields vs) → VSs (X.suite a ((a, oe) :: pn)) fx (b₀ :: bs) (suite a dd xn))
    (hdb : (x == ("__debug__" : Str)) = false := by decide) (he : starEach (e :: es) X.env = (false, eval e X.env) :: starEach es X.env := by rfl) (hpl : (backTo p2 (starEach es X.env)).any (·.1) = false := by rfl)
    (hsw : swapsWith (.Call (.Name x p) (e :: es) [] p2) none p3.line X.env = pure false := by rfl) :
    VS X fx (.Try [.Expr (.Call (.Name x p) (e :: es) [] p2) p3] [.ExceptHandler (some (.Name cx np)) (some nm) (b₀ :: bs) pos'] [] [] pos)
      (sTry n ie cm S fs (fun _ E ρ1 => E.nx ρ1) suite) := by
  obtain ⟨fa, fd, ps, F, hm, hk', hb⟩ := cl.ex
  refine PS.pwI (ps_try_as hs hf hN hi hln hcN takes_any (fun W pn xe tk hp => pss_cons (ps_expr (pe_callS (X := X.tr pn xe) (t := tAO X.K fs) F (hr.mono hk) hg hm hk' hb (passAt tk) (ha pn xe) hdb he hpl) hsw) pss_nil) fun a oe cls d pn hz hd => sui_ok hsu hz hd) fun pins s De σ H I h => ?_
  refine try_core I.len.symm (List.getElem?_eq_some_iff.mp hi).1 hfe hcm h fun P ρ W E ρ1 H1 H2 W1 d v G G2 st rd hgd k1 => ?_
  exact k1 _ _ _ ⟨W1, st, G2, .refl⟩ hgd
end
end PW
end PwJt
section PwJu
set_option maxRecDepth 100000
/-! PwJu: what a suite asks of its exception: fields, isinstance. -/
namespace PW
open PySem PySem.Spec L2
open PyProof.Rows hiding St
section
variable {X : Cx} {a dd C : Addr} {oe : Obj} {cls : Value} {pn : List (Addr × Obj)} {e : Expr} {es : List Expr} {pos p : Pos} {i : Nat} {f n : Str} {xn : Exn}
/-- e.f -/
def fXf (i : Nat) (a dd : Addr) (xn : Exn) (f : Str) : TF := fun ρ Q => match ρ[i]? with
  | some (.own (.ex a' dd' x)) => (a' = a ∧ dd' = dd ∧ x.cls = xn.cls) ∧ match x.fs.lookup f with
    | some d => Q (.val (.d d)) ρ
    | none => False
  | _ => False
theorem RepFs.look {K : PySem.W.Frag} {H : Hp} {f : Str} {d : D} : ∀ {xs : List (Str × D)} {fs : List (Str × V)}, RepFs K H xs fs → xs.lookup f = some d → ∃ v, fs.lookup f = some v ∧ RepD K H d v
  | [], _, _, h => by cases h
  | (g, x) :: xs, _, ⟨v, r, e, h, t⟩, l => by
    subst e
    by_cases c : f = g
    · subst c
      have l : x = d := by simpa [List.lookup] using l
      subst l
      exact ⟨v, by simp [List.lookup], h⟩
    · have c' : (f == g) = false := by simpa using c
      rw [List.lookup, c'] at l
      obtain ⟨u, h1, h2⟩ := RepFs.look t l
      exact ⟨u, by rw [List.lookup, c']; exact h1, h2⟩
theorem ve_xf (T : XfC X.K C) (hno : PySem.W.findIn X.K (.ref C) f = some none) (hz : Zc (.ref C) (some dd) oe) (hf : ∃ vs, oe.data = .fields vs) (hv : PE (X.suite a ((a, oe) :: pn)) e (tVar i))
    (hb : attributeBase e f X.env (eval e X.env) = eval e X.env := by rfl) : VE (X.suite a ((a, oe) :: pn)) (.Attribute e f pos) (fXf i a dd xn f) :=
  (pe_xf T hno hz hf hv hb).pwi fun σ H Q ⟨P, ρ, W, R, G, q, k⟩ => by
    unfold fXf at q
    split at q
    · rename_i a' dd' x hs
      obtain ⟨⟨e1, e2, _⟩, q⟩ := q
      subst e1 e2
      obtain ⟨v, ws, hv, rt⟩ := G.sr.read (.inl hs)
      obtain ⟨fs, hd, rf⟩ := rt.2.1
      have e3 : v = .ref a' := rt.1
      subst e3
      split at q
      · rename_i d hl
        obtain ⟨u, hu, ru⟩ := rf.look hl
        exact ⟨_, hv, rfl, rfl, dd', fs, u, rfl, hd, hu, k _ _ (.val (.d d)) _ ⟨[], W, Step.refl _ _, by simpa using G.nd, G.sr, ⟨ru, rfl⟩⟩ q⟩
      · exact q.elim
    · exact q.elim
/-! ### isinstance(e, ..) -/
/-- what isinstance sees of an exception that has a dict -/
def rIsX (K : PySem.W.Frag) (D a dd : Addr) : List V → Hp → VK → Prop := fun xs H Q => ∃ (c : V) (b : Bool) (fs : List (Str × V)), xs = [.ref a, c] ∧ H dd = some (.xd fs) ∧ Q (.bl b) H ∧
  ((∃ cv : Value, (∀ u, RelV c u → u = cv) ∧ PySem.W.kitOne K (.ref D) cv = some b) ∨ ∃ (t : Addr) (cs : List V), c = .ref t ∧ H t = some (.tup cs) ∧ ∀ us, Vals cs us → PySem.W.kitAny K (.ref D) us = some b)
theorem call_isX {D : Addr} (F : ExcC X.K D) (hz : Zc (.ref D) (some dd) oe) (hf : ∃ vs, oe.data = .fields vs) : CallR (X.suite a ((a, oe) :: pn)) (.builtin "isinstance") (rIsX X.K D a dd) := by
  intro pins s σ H xs us Q I r ⟨c, b, fs, e0, hd, q, h⟩
  subst e0
  obtain ⟨u1, u2, eu, r1, r2⟩ := vals2 r
  subst eu
  obtain rfl : u1 = Value.ref a := r1
  obtain ⟨hget, _⟩ := I.pin (a, oe) (List.mem_append_left _ List.mem_cons_self)
  obtain ⟨ws, hws⟩ := hf
  obtain ⟨mA, hns, _⟩ : ObjOk X.prog X.w H s.heap dd (.xd fs) := I.hok dd _ hd
  obtain ⟨od, hod, _⟩ := lookIn_ns hns
  have at_ : PySem.W.InstAt s.heap a oe D (some od) := ⟨hget, hz.1, by unfold PySem.W.notCls; rw [hws] <;> rfl, by rw [hz.2]; exact hod⟩
  have kx : PySem.W.KitX X.K (.ref a) (.ref D) (fun h => PySem.W.InstAt h a oe D (some od)) := PySem.W.kitx_exc (by obtain ⟨cd, hc, _⟩ := PySem.W.any_some F.hd; rw [hc]; rfl) F.hg F.hk F.hs F.ha F.hn F.ht F.hm
  rcases h with ⟨cv, hcv, hk⟩ | ⟨t, cs, ec, ht, hk⟩
  · have := hcv _ r2
    subst this
    exact PySem.W.kia_one kx I.kIn at_ hk (fun z => nomatch z) fun tk => ⟨.bl b, H, I.kept (t' := tk) fun _ _ z => z, rfl, q⟩
  · subst ec
    obtain rfl : u2 = Value.ref t := r2
    obtain ⟨_, its, rv, ot, h1, h2, n, h3⟩ := (show ObjOk X.prog X.w H s.heap t (.tup cs) from I.hok t _ ht)
    obtain ⟨oc, od2, dt, sl⟩ := ot
    simp only at h2 h3
    subst h2 h3
    exact PySem.W.kia_tup kx I.kIn at_ h1 (hk _ rv) (fun z => nomatch z) fun tk => ⟨.bl b, H, I.tok tk, rfl, q⟩
/-- isinstance(e, C), it: what is answered, class by class -/
def fIsX (i : Nat) (a dd : Addr) (xn : Exn) (it : Str → Option Bool) : TF := fun ρ Q => match ρ[i]? with
  | some (.own (.ex a' dd' x)) => (a' = a ∧ dd' = dd ∧ x.cls = xn.cls) ∧ match it xn.cls with
    | some b => Q (.val (.d (.bool b))) ρ
    | none => False
  | _ => False
theorem ve_isX {D : Addr} {it : Str → Option Bool} {c : V} {cv : Value} {ce : Expr} {p : Pos} (F : ExcC X.K D) (hz : Zc (.ref D) (some dd) oe) (hf : ∃ vs, oe.data = .fields vs) (hv : PE (X.suite a ((a, oe) :: pn)) e (tVar i)) (hc : PE (X.suite a ((a, oe) :: pn)) ce (tC c)) (hcv : ∀ u, RelV c u → u = cv)
    (hit : ∀ b, it xn.cls = some b → PySem.W.kitOne X.K (.ref D) cv = some b) (hg : Gl X "isinstance") (hm : X.mg "isinstance" = none)
    (h1 : starEach [e, ce] X.env = (false, eval e X.env) :: starEach [ce] X.env := by rfl) (h2 : starEach [ce] X.env = (false, eval ce X.env) :: starEach [] X.env := by rfl) (hpl : (backTo pos (starEach [ce] X.env)).any (·.1) = false := by rfl) :
    VE (X.suite a ((a, oe) :: pn)) (.Call (.Name "isinstance" p) [e, ce] [] pos) (fIsX i a dd xn it) :=
  (pe_callB (X := X.suite a ((a, oe) :: pn)) (call_isX F hz hf) hg hm boot_isinstance (pa_cons hv (pa_cons hc pa_nil h2) h1) (by decide) (by decide) h1 hpl).pwi fun σ H Q ⟨P, ρ, W, R, G, q, k⟩ => by
    unfold fIsX at q
    split at q
    · rename_i a' dd' x hs
      obtain ⟨⟨e1, e2, _⟩, q⟩ := q
      subst e1 e2
      obtain ⟨v, ws, hv, rt⟩ := G.sr.read (.inl hs)
      obtain ⟨fs, hd, rf⟩ := rt.2.1
      have e3 : v = .ref a' := rt.1
      subst e3
      split at q
      · rename_i b hb
        exact ⟨_, hv, c, b, fs, rfl, hd, k _ _ (.val (.d (.bool b))) _ ⟨[], W, Step.refl _ _, by simpa using G.nd, G.sr, ⟨rfl, rfl⟩⟩ q, .inl ⟨cv, hcv, hit b hb⟩⟩
      · exact q.elim
    · exact q.elim
theorem ve_isXT {D : Addr} {it : Str → Option Bool} {cs : List V} {ces : List Expr} {kt : Nat} {p tp : Pos} (F : ExcC X.K D) (hz : Zc (.ref D) (some dd) oe) (hf : ∃ vs, oe.data = .fields vs) (hv : PE (X.suite a ((a, oe) :: pn)) e (tVar i)) (hc : PA (X.suite a ((a, oe) :: pn)) ces (fun _ H Q => Q cs H)) (hl : cs.length ≤ 1000)
    (hit : ∀ b us, it xn.cls = some b → Vals cs us → PySem.W.kitAny X.K (.ref D) us = some b) (hg : Gl X "isinstance") (hm : X.mg "isinstance" = none)
    (h1 : starEach [e, .Tuple ces kt tp] X.env = (false, eval e X.env) :: starEach [.Tuple ces kt tp] X.env := by rfl) (h2 : starEach [.Tuple ces kt tp] X.env = (false, eval (.Tuple ces kt tp) X.env) :: starEach [] X.env := by rfl) (hpl : (backTo pos (starEach [.Tuple ces kt tp] X.env)).any (·.1) = false := by rfl) :
    VE (X.suite a ((a, oe) :: pn)) (.Call (.Name "isinstance" p) [e, .Tuple ces kt tp] [] pos) (fIsX i a dd xn it) :=
  (pe_callB (X := X.suite a ((a, oe) :: pn)) (call_isX F hz hf) hg hm boot_isinstance (pa_cons hv (pa_cons (pe_tup hc) pa_nil h2) h1) (by decide) (by decide) h1 hpl).pwi fun σ H Q ⟨P, ρ, W, R, G, q, k⟩ => by
    unfold fIsX at q
    split at q
    · rename_i a' dd' x hs
      obtain ⟨⟨e1, e2, _⟩, q⟩ := q
      subst e1 e2
      obtain ⟨v, ws, hv, rt⟩ := G.sr.read (.inl hs)
      obtain ⟨fs, hd, rf⟩ := rt.2.1
      have e3 : v = .ref a' := rt.1
      subst e3
      split at q
      · rename_i b hb
        refine ⟨_, hv, by rw [sizeLine_eq]; omega, fun t ht => ?_⟩
        have sm : Same H (upd H t (.tup cs)) := same_upd ht
        have G2 : SR X.K P (upd H t (.tup cs)) ρ σ W := G.sr.after (W0 := []) (fun b o h _ => sm b o h) (by simp) (by simp) (by simp)
        exact ⟨.ref t, b, fs, rfl, sm _ _ hd, k _ _ (.val (.d (.bool b))) _ ⟨[], W, ⟨fun c o hc _ => sm c o hc, fun c hc => .inl (by simpa using hc)⟩, by simpa using G.nd, G2, ⟨rfl, rfl⟩⟩ q, .inr ⟨t, cs, rfl, upd_same, fun us rv => hit b us hb rv⟩⟩
      · exact q.elim
    · exact q.elim
/-- isinstance of an own class -/
theorem kit_ref {K : PySem.W.Frag} {D C : Addr} {b : Bool} (hc : (PySem.W.clsIn K C).isSome = true) (ht : PySem.W.typeIn K (.ref C) = some (.type "type")) (hs : PySem.W.subIn K (.ref D) (.ref D) = some true) (h : PySem.W.subIn K (.ref D) (.ref C) = some b) : PySem.W.kitOne K (.ref D) (.ref C) = some b := by
  unfold PySem.W.kitOne
  by_cases e : (Value.ref D == Value.ref C) = true
  · rw [if_pos e]
    have e2 : D = C := Value.ref.inj (beq_iff_eq.mp e)
    subst e2
    rw [hs] at h
    exact h
  · rw [if_neg e]
    show (if _ then _ else _) = _
    rw [if_pos (by rw [hc, ht]; rfl)]
    exact h
theorem kit_typ {K : PySem.W.Frag} {D : Addr} {T : String} {b : Bool} (hT : PySem.W.kitMeta T = true) (h : PySem.W.subIn K (.ref D) (.type T) = some b) : PySem.W.kitOne K (.ref D) (.type T) = some b := by
  unfold PySem.W.kitOne
  rw [if_neg (show ¬ (Value.ref D == Value.type T) = true from fun z => nomatch (beq_iff_eq.mp z))]
  show (if PySem.W.kitMeta T = true then PySem.W.subIn K (.ref D) (.type T) else none) = _
  rw [if_pos hT]
  exact h
theorem kit_any {K : PySem.W.Frag} {t : Value} : ∀ {cs : List Value} {b : Bool}, (∃ bs : List Bool, bs.length = cs.length ∧ (∀ (i : Nat) (c : Value) (r : Bool), cs[i]? = some c → bs[i]? = some r → PySem.W.kitOne K t c = some r) ∧ bs.any id = b) → PySem.W.kitAny K t cs = some b
  | [], b, ⟨bs, hl, _, hb⟩ => by
    have : bs = [] := List.eq_nil_of_length_eq_zero hl
    subst this
    subst hb
    rfl
  | c :: cs, b, ⟨bs, hl, hk, hb⟩ => by
    cases bs with
    | nil => cases hl
    | cons r bs =>
      have h0 := hk 0 c r rfl rfl
      have ih := kit_any (K := K) (t := t) (cs := cs) (b := bs.any id) ⟨bs, by simpa using hl, fun i d q h1 h2 => hk (i + 1) d q (by simpa using h1) (by simpa using h2), rfl⟩
      unfold PySem.W.kitAny
      rw [h0]
      cases r with
      | true => simp at hb ⊢; exact hb
      | false => rw [List.any_cons] at hb; simp at hb ⊢; rw [ih]; simp [hb]
end
end PW
end PwJu
section PwBr
set_option maxRecDepth 100000
/-! PwBr: calls that borrow an owned list of a slot: the callee reads it as data, its answer is scalar, the list stays owned. -/
namespace PW
open PySem PySem.Spec L2
open PyProof.Rows hiding St
section
variable {X : Cx} {e : Expr} {es : List Expr} {pos p : Pos} {fs : TAF} {i : Nat}
/-- arguments, then a list of theirs locked -/
def tLk (X : Cx) (fs : TAF) : TA := fun σ H Q => tAO X.K fs σ H fun vs H1 => ∃ (a : Addr) (xv : List V), H1 a = some (.lst xv) ∧ ((∀ o' u', X.H_0 a ≠ some (.frz o' u')) → ∀ od, Q vs (upd H1 a (.frz od (.lst xv))))
theorem pa_lk (ha : VA X es fs) : PA X es (tLk X fs) := ⟨fun pos pins s σ H Q I h => thn (ha.run pos pins s σ H _ I h) fun us s1 ⟨vs, H1, I1, r, a, xv, e, q⟩ => by
  obtain ⟨od, I2⟩ := I1.lock e trivial
  exact ⟨vs, _, I2, r, q (I1.nofrz e trivial) od⟩⟩
/-- operands as data, the list of slot i as such -/
def dsB (i : Nat) (xs : List D) : List Opv → Option (List D)
  | [] => some []
  | .val (.d x) :: os => match dsB i xs os with
    | some ys => some (x :: ys)
    | none => none
  | .slot j :: os => if j = i then (match dsB i xs os with
    | some ys => some (.list xs :: ys)
    | none => none) else none
  | _ => none
def fCallB (i n : Nat) (S : FS) (fs : TAF) : TF := fun ρ Q => fs ρ fun os ρ1 => match ρ1[i]? with
  | some (.own (.ls xs)) => match dsB i xs os with
    | some ds => ds.length = n ∧ S (ds.map fun d => .own (.d d)) fun t _ => match t with
      | .d d => scal d = true ∧ Q (.val (.d d)) ρ1
      | _ => False
    | none => False
  | _ => False
theorem scal_rep {K : PySem.W.Frag} {H H' : Hp} {v : V} : ∀ {d : D}, scal d = true → RepD K H d v → RepD K H' d v
  | .none, _, h => h
  | .bool _, _, h => h
  | .int _, _, h => h
  | .str _, _, h => h
  | .tuple _, h, _ => by cases h
  | .list _, h, _ => by cases h
  | .dict _, h, _ => by cases h
theorem dsB_rep {K : PySem.W.Frag} {H H' : Hp} {σ : St} {xs : List D} {a : Addr} (hv : σ[i]? = some (some (.ref a))) (hl : RepD K H' (.list xs) (.ref a)) (hk : ∀ {d : D} {v : V}, RepD K H d v → RepD K H' d v) : ∀ {os : List Opv} {ds : List D} {vs : List V} {ws : List Addr}, dsB i xs os = some ds → RepOs K H σ os vs ws → RepDs K H' ds vs ∧ ws = []
  | [], ds, vs, ws, h, ⟨e, ew⟩ => by cases h; exact ⟨e, ew⟩
  | .val (.d x) :: os, ds, vs, ws, h, ⟨v, r, w1, w2, e, h1, h2, ew⟩ => by
    unfold dsB at h
    split at h
    · rename_i ys hy
      cases h
      obtain ⟨g, e2⟩ := dsB_rep hv hl hk hy h2
      exact ⟨⟨v, r, e, hk h1.1, g⟩, by rw [ew, h1.2, e2]; rfl⟩
    · cases h
  | .slot j :: os, ds, vs, ws, h, ⟨v, r, w1, w2, e, h1, h2, ew⟩ => by
    unfold dsB at h
    split at h
    · rename_i hj
      split at h
      · rename_i ys hy
        cases h
        obtain ⟨g, e2⟩ := dsB_rep hv hl hk hy h2
        subst hj
        have e3 : v = .ref a := by
          have z := h1.1
          rw [hv] at z
          injection z with z
          injection z with z
          exact z.symm
        subst e3
        exact ⟨⟨_, r, e, hl, g⟩, by rw [ew, h1.2, e2]; rfl⟩
      · cases h
    · cases h
  | .val (.ls _) :: _, _, _, _, h, _ => by cases h
  | .val (.lt _) :: _, _, _, _, h, _ => by cases h
  | .val (.dk _) :: _, _, _, _, h, _ => by cases h
  | .val (.tp _) :: _, _, _, _, h, _ => by cases h
  | .val (.ex _ _ _) :: _, _, _, _, h, _ => by cases h
  | .val (.ob _ _) :: _, _, _, _, h, _ => by cases h
  | .val (.pt _) :: _, _, _, _, h, _ => by cases h
theorem vcallB {k j n : Nat} {x : Str} {S : FS} (cl : Cal X.prog X.w X.K X.mg X.base k n x S []) (hr : Room j X.A) (hk : k ≤ j) (hg : Gl X x) (ha : VA X (e :: es) fs) (hdb : (x == ("__debug__" : Str)) = false := by decide)
    (he : starEach (e :: es) X.env = (false, eval e X.env) :: starEach es X.env := by rfl) (hpl : (backTo pos (starEach es X.env)).any (·.1) = false := by rfl) : VE X (.Call (.Name x p) (e :: es) [] pos) (fCallB i n S fs) := by
  obtain ⟨fa, fd, ps, dV, dvs, F, hm, hk', hb, hd, rd⟩ := cl.ex
  refine ⟨fun pins s σ H Q I ⟨P, ρ, W, R, G, q, k⟩ => ?_⟩
  refine thn ((pe_call F (hr.mono hk) hg hm hk' hb hd (pass0 (X := X)) (pa_lk ha) hdb he hpl).run pins s σ H (fun v H2 => ∃ (a : Addr) (od : Obj) (xv : List V), H2 a = some (.frz od (.lst xv)) ∧ (∀ o' u', X.H_0 a ≠ some (.frz o' u')) ∧ Q v (upd H2 a (.lst xv))) I ?_) fun u s1 ⟨v, H2, I2, r, a, od, xv, e, hn, q⟩ => ⟨v, _, I2.unlock e hn, r, q⟩
  refine ⟨P, ρ, W, _, G, q, fun vs H1 os ρ1 r1 h1 => ?_⟩
  obtain ⟨ws, W1, G1, st, nd, rp⟩ := r1.good G
  split at h1
  · rename_i xs hx
    split at h1
    · rename_i ds hds
      obtain ⟨hl, hS⟩ := h1
      obtain ⟨v, w0, hv, a, xv, e0, ha0, hr0, _⟩ := G1.sr.read (.inl hx)
      subst e0
      refine ⟨a, xv, ha0, fun hn od => ?_⟩
      have kp : Kept [a] H1 (upd H1 a (.frz od (.lst xv))) := ⟨fun b o hb hn => by rw [upd_ne (by simpa using hn)]; exact hb, fun b hb => by
        have : b = a := by simpa using hb
        subst this; exact .inl ⟨_, ha0⟩⟩
      have lr : RepD X.K (upd H1 a (.frz od (.lst xv))) (.list xs) (.ref a) := ⟨a, xv, rfl, .inl ⟨od, upd_same⟩, hr0.keep kp⟩
      obtain ⟨rds, ew⟩ := dsB_rep hv lr (fun h => h.keep kp) hds rp
      subst ew
      have ed : dvs = [] := rd H
      subst ed
      have g0 := SR.app (P := fun _ => False) (σ := []) (ss := []) (W := []) rds ⟨rfl, rfl⟩
      refine ⟨by rw [List.append_nil, rds.length, hl], fun _ => False, _, [], _, ⟨by simpa using g0, List.nodup_nil, fun b hb => hb.elim⟩, hS, fun r H2 t fin ws2 W2 st2 nd2 sr2 rp2 hR => ?_⟩
      split at hR
      · rename_i d
        obtain ⟨hs, hq⟩ := hR
        have ha2 : H2 a = some (.frz od (.lst xv)) := st2.keep a _ upd_same (by simp)
        have sm : Same H1 (upd H2 a (.lst xv)) := fun b o hb => by
          by_cases c : b = a
          · subst c; rw [upd_same, ← ha0]; exact hb
          · rw [upd_ne c]; exact st2.keep b o (by rw [upd_ne c]; exact hb) (by simp)
        refine ⟨a, od, xv, ha2, hn, k _ _ (.val (.d d)) _ ⟨[], W1, ⟨fun b o h hb => sm b o (st.keep b o h (by simpa using hb)), fun b hb => st.new b (by simpa using hb)⟩, by simpa using G1.nd, G1.sr.after (W0 := []) (fun b o h _ => sm b o h) (by simp) (by simp) (by simp), ⟨scal_rep hs rp2.1, rfl⟩⟩ hq⟩
      · exact hR.elim
    · exact h1.elim
  · exact h1.elim
end
/-! ### x.clear() -/
def mClr : MF := fun xs ts R => match ts with
  | [] => R .none []
  | _ => False
def rClr : V → List V → Hp → VK → Prop := fun x vs H Q => ∃ l xs, x = .ref l ∧ vs = [] ∧ H l = some (.lst xs) ∧ Q .non (upd H l (.lst []))
section
open PyProof
theorem mt_clear {X : Cx} : MtM X "list.clear" rClr := by
  intro pins s σ H x vs v us Q I rx rv h
  obtain ⟨l, xs, rfl, rfl, hH, q⟩ := h
  cases rx
  have hus := rv.zero
  subst hus
  obtain ⟨z, its, n, r, hl, e⟩ := I.lstM hH
  refine call_meets F.slot_list_clear ⟨_, e, rfl⟩ F.entry_list_clear (F.args_list_clear_1 _) (AutoSeq1.list_clear_list_0 l its.toArray n (by rw [List.size_toArray]; omega)) ⟨e, ?_⟩
  exact ⟨.non, _, I.lset (its' := []) hH e rfl .nil (by simp), rfl, q⟩
end
theorem mk_clr {K : PySem.W.Frag} : MutOk K mClr rClr := by
  intro xs ts a xv vs H Q R ha hr b h k
  unfold mClr at h
  split at h
  · have e := b0 b
    exact ⟨a, xv, rfl, e, ha, k .non _ .none [] [] (fun b o hb hn => by rw [upd_ne hn]; exact hb) upd_same rfl rfl h⟩
  · exact h.elim
end PW
end PwBr
section PwEx
set_option maxRecDepth 100000
/-! PwEx: what is written of the classes of exceptions, put together for the rules of raise, try, isinstance. -/
namespace PW
open PySem PySem.Spec L2
open PyProof.Rows hiding St
theorem boot_ValueError : bootBuiltins "ValueError" = some (.type "ValueError") := by decide +kernel
theorem boot_KeyError : bootBuiltins "KeyError" = some (.type "KeyError") := by decide +kernel
def clsBody : Stmt → List Stmt
  | .ClassDef _ _ _ b _ _ _ _ _ _ _ => b
  | _ => []
def initS (s : Stmt) : Stmt := (clsBody s).getD 0 (.Pass ⟨0, 0, 0, 0⟩)
section
variable {K : PySem.W.Frag} {C D : Addr}
theorem oex_mk {nm q : Str} {N : Addr} {bs bm : List Value} {sn : List Str} {sub : List Value} {ab : Bool} {col : Option Bool} {dd : Option Addr} {k0 k1 k2 k3 k5 : Option Value}
    (xl : K.lookup C = some (excClassObj nm q C N bs bm true sn sub ab col dd k0 k1 k2 k3 k5 "ValueError.__new__")) (xr : PySem.HandSPX.refsVE bm = true)
    (sa : PySem.W.findIn K (.ref C) "__setattr__" = some (some (.builtin "object.__setattr__"))) (ex : PySem.W.subIn K (.ref C) (.type "BaseException") = some true) (ty : PySem.W.typeIn K (.ref C) = some (.type "type")) (kp : PySem.W.keepIn K (.ref C) = true) : OexC K C :=
  ⟨⟨_, _, _, _, _, _, _, _, _, _, _, _, _, _, _, xl, xr⟩, sa, ex, ty, kp⟩
/-- the handler's class takes it -/
theorem exm_mk (hb : PySem.W.subIn K (.ref D) (.type "BaseException") = some true) (hi : PySem.W.isClsIn K D = true) (ht : PySem.W.typeIn K (.ref D) = some (.type "type")) (hs : PySem.W.subIn K (.ref C) (.ref D) = some true) : PySem.W.exmOne K (.ref C) (.ref D) = some true := by
  have hi : (PySem.W.clsIn K D).isSome = true := hi
  unfold PySem.W.exmOne
  rw [hb]
  show PySem.W.kitCls K (.ref C) (.ref D) = _
  unfold PySem.W.kitCls
  show (if _ then _ else _) = _
  rw [if_pos (by rw [hi, ht]; rfl)]
  exact hs
theorem kit_mk {b : Bool} (hi : PySem.W.isClsIn K D = true) (ht : PySem.W.typeIn K (.ref D) = some (.type "type")) (hs : PySem.W.subIn K (.ref C) (.ref C) = some true) (h : PySem.W.subIn K (.ref C) (.ref D) = some b) : PySem.W.kitOne K (.ref C) (.ref D) = some b := kit_ref hi ht hs h
theorem any_nil {t : Value} : PySem.W.kitAny K t [] = some false := rfl
theorem any_no {t c : Value} {cs : List Value} {b : Bool} (h : PySem.W.kitOne K t c = some false) (hr : PySem.W.kitAny K t cs = some b) : PySem.W.kitAny K t (c :: cs) = some b := by
  unfold PySem.W.kitAny
  rw [h]
  exact hr
theorem any_yes {t c : Value} {cs : List Value} (h : PySem.W.kitOne K t c = some true) : PySem.W.kitAny K t (c :: cs) = some true := by
  unfold PySem.W.kitAny
  rw [h]
theorem vals_refs : ∀ {as : List Addr} {us : List Value}, Vals (as.map V.ref) us → us = as.map Value.ref
  | [], _, h => by cases h; rfl
  | a :: as, _, h => by
    cases h with
    | cons r t =>
      have r : _ = Value.ref a := r
      rw [r, vals_refs t]; rfl
end
section
variable {X : Cx} {es : List Expr}
/-- names of classes, one behind the other -/
theorem pa_refs_nil : PA X [] (fun _ H Q => Q (([] : List Addr).map V.ref) H) := pa_nil
theorem pa_refs_cons {x : Str} {a : Addr} {as : List Addr} {pos : Pos} (hg : Gl X x) (hm : X.mg x = some (.ref a)) (hr : PA X es (fun _ H Q => Q (as.map V.ref) H)) (hd : (x == ("__debug__" : Str)) = false := by decide) (hs : starEach (.Name x pos :: es) X.env = (false, eval (.Name x pos) X.env) :: starEach es X.env := by rfl) : PA X (.Name x pos :: es) (fun _ H Q => Q ((a :: as).map V.ref) H) :=
  (pa_cons (pe_glob (v := .ref a) hg hm rfl hd) hr hs).pwi fun σ H Q h => h
end
/-! ### one class is raised -/
theorem cm_one {K : PySem.W.Frag} {mg : Str → Option Value} {C : Addr} {z s : Str} {cls c : Value} (hc : (s == z) = true) (hm : mg s = some cls) (hg : mg z = some (.ref C)) (h : PySem.W.exmOne K (.ref C) c = some true) : PySem.W.exmOne K cls c = some true := by
  have e : s = z := eq_of_beq hc
  subst e
  rw [hg] at hm
  cases hm
  exact h
theorem sui_one {mg : Str → Option Value} {C : Addr} {z : Str} {xn : Exn} {cls : Value} {P : Prop} (hc : (xn.cls == z) = true) (hm : mg xn.cls = some cls) (hg : mg z = some (.ref C)) (h : xn.cls = z → cls = .ref C → P) : P := by
  have e : xn.cls = z := eq_of_beq hc
  refine h e ?_
  rw [e, hg] at hm
  cases hm
  rfl
theorem it_one {K : PySem.W.Frag} {z s : Str} {r b : Bool} {t c : Value} (ex : s = z) (h : (if (s == z) = true then some r else none) = some b) (k : PySem.W.kitOne K t c = some r) : PySem.W.kitOne K t c = some b := by
  subst ex
  rw [if_pos (beq_self_eq_true _)] at h
  cases h
  exact k
theorem it_any {K : PySem.W.Frag} {z s : Str} {r b : Bool} {t : Value} {cs us : List Value} (ex : s = z) (h : (if (s == z) = true then some r else none) = some b) (e : us = cs) (k : PySem.W.kitAny K t cs = some r) : PySem.W.kitAny K t us = some b := by
  subst ex e
  rw [if_pos (beq_self_eq_true _)] at h
  cases h
  exact k
end PW
end PwEx
section PwXc
set_option maxRecDepth 100000
/-! PwXc: calls of defs that may raise: by place, by keyword; in expressions where they don't, in assignments, returns and statements that let it through, in try. -/
namespace PW
open PySem PySem.Spec L2
open PyProof.Rows hiding St
/-! ### the kit's call by keywords, its way out told by the frame's names -/
def tCallNS (n m : Nat) (sp : Sp) (gV : List V → List V → List V) (E : St → XK) (t tk : TA) : TE := fun σ H Q => t σ H fun vs H1 => tk σ H1 fun zs H2 => vs.length = n ∧ zs.length = m ∧ sp (gV vs zs) H2 Q (E σ)
section
variable {X : Cx} {CX : CXT} {k n : Nat} {f : Addr} {fd : FuncData} {ps ks : List Str} {sp : Sp} {E : St → XK} {x : Str} {p pos : Pos} {e : Expr} {es : List Expr} {kws : List Keyword} {t tk : TA} {g : List Value → List Value → List Value} {gV : List V → List V → List V}
theorem run_fnNS {pins : List (Addr × Obj)} {σ : St} {H : Hp} {s : Shared} {Q : VK} {us ws : List Value} {vs zs : List V} (F : FnOk X.prog X.w X.K X.mg X.base CX k f fd ps sp) (hr : Room k X.A) (hb : KBn X.K fd ps n ks g gV) (hx : PassesAt CX X σ (E σ))
    (I : Inv X pins σ H s) (r : Vals vs us) (rz : Vals zs ws) (l1 : vs.length = n) (l2 : zs.length = ks.length) (h : sp (gV vs zs) H Q (E σ)) : wpAny (model X.prog X.w) X.A (call (.ref f) us (ks.zip ws)) (EP X pins σ Q) X.xe s := by
  have r2 := hb.rel r rz
  refine wpAny_call (codeAny_mono (F.run X.A X.stack s H ⟨us, ks.zip ws⟩ (g us ws) (gV vs zs) Q (E σ) hr I.env0 (hb.to s us ws I.kIn (r.length.symm.trans l1) (rz.length.symm.trans l2)) r2 h) fun r s' hq => ?_)
  cases r with
  | error e => exact hx pins H s e s' I hq
  | ok fl =>
    cases fl with
    | ret u => exact I.after hq
    | next => exact False.elim hq
    | brk => exact False.elim hq
    | cont => exact False.elim hq
theorem pe_callNS (F : FnOk X.prog X.w X.K X.mg X.base CX k f fd ps sp) (hr : Room k X.A) (hg : Gl X x) (hm : X.mg x = some (.ref f)) (hk : PySem.W.keepIn X.K (.ref f) = true) (hb : KBn X.K fd ps n ks g gV) (hx : ∀ σ, PassesAt CX X σ (E σ))
    (ha : PA X (e :: es) t) (hkw : PK X kws tk) (hall : (backToKw pos (keywordEach kws X.env)).all (·.1.isSome) = true := by rfl) (hks : (backToKw pos (keywordEach kws X.env)).filterMap (·.1) = ks := by rfl)
    (hdb : (x == ("__debug__" : Str)) = false := by decide) (he : starEach (e :: es) X.env = (false, eval e X.env) :: starEach es X.env := by rfl)
    (hpl : ((backTo pos (starEach (e :: es) X.env)).any (·.1) || (backToKw pos (keywordEach kws X.env)).any (·.1.isNone)) = false := by rfl) :
    PE X (.Call (.Name x p) (e :: es) kws pos) (tCallNS n ks.length sp gV E t tk) := by
  refine ⟨fun pins s σ H Q I h => ?_⟩
  refine wpAny_Call_Name_kw (ld_glob I hg hm ?_ hdb)
  refine PySem.W.callWith_KW (h₀ := X.base) I.ok.mod.kin hk hall (thn (ha.run pos pins s σ H _ I h) fun us s1 ⟨vs, H1, I1, r, q⟩ => ?_) hpl he
  refine thn (hkw.run pos pins s1 σ H1 _ I1 q) fun ws s2 ⟨zs, H2, I2, rz, l1, l2, q2⟩ => ⟨I2.kIn, ?_⟩
  rw [hks]
  exact run_fnNS F hr hb (hx σ) I2 r rz l1 l2 q2
end
/-! ### what such a call asks -/
def PCx (X : Cx) (e : Expr) (n : Nat) (S : FSX) (fa : TAF) : Prop := ∀ W : WX, Takes X W → PE X e (tCallS (spX X.K X.mg n S) (WE W) (tAO X.K fa))
/-- by keywords -/
structure CalKX (Pg : Program) (w : World) (K : PySem.W.Frag) (mg : Str → Option Value) (base : Heap) (k n : Nat) (x : Str) (S : FSX) (np : Nat) (ks : List Str) (pm : List Pm) : Prop where
  ex : ∃ (fa : Addr) (fd : FuncData) (ps : List Str) (g : List Value → List Value → List Value) (gV : List V → List V → List V), FnOk Pg w K mg base (CX Pg w) k fa fd ps (spX K mg n S) ∧ mg x = some (.ref fa) ∧ PySem.W.keepIn K (.ref fa) = true ∧ KBn K fd ps np ks g gV ∧
    ∀ vs zs : List V, vs.length = np → zs.length = ks.length → gV vs zs = pmV (vs ++ zs) pm
theorem FnOk.calKX {Pg : Program} {w : World} {K : PySem.W.Frag} {mg : Str → Option Value} {base : Heap} {k n np : Nat} {x : Str} {S : FSX} {fa : Addr} {fd : FuncData} {ps ks : List Str} {pm : List Pm} {g : List Value → List Value → List Value} {gV : List V → List V → List V} (F : FnOk Pg w K mg base (CX Pg w) k fa fd ps (spX K mg n S)) (hm : mg x = some (.ref fa)) (hk : PySem.W.keepIn K (.ref fa) = true) (hb : KBn K fd ps np ks g gV)
    (h : ∀ vs zs : List V, vs.length = np → zs.length = ks.length → gV vs zs = pmV (vs ++ zs) pm) : CalKX Pg w K mg base k n x S np ks pm := ⟨fa, fd, ps, g, gV, F, hm, hk, hb, h⟩
theorem FnOk.calDX {Pg : Program} {w : World} {K : PySem.W.Frag} {mg : Str → Option Value} {base : Heap} {k n np : Nat} {x qual : Str} {params : Arguments} {body : List Stmt} {scope : Scope} {S : FSX} {fa : Addr} {fd : FuncData} {ps ks : List Str} {pm : List Pm} {kws : List (Str × V)} (ms : List (Str × V)) (is : List Nat)
    (F : FnOk Pg w K mg base (CX Pg w) k fa fd ps (spX K mg n S)) (D : FunD K x qual params body scope [] kws fa fd) (hm : mg x = some (.ref fa)) (hk : kws ≠ []) (hms : ∀ q ∈ ms, q ∈ kws)
    (h : ∀ (D : Addr) (doc pm : Value) (an : Option Addr) (cdv ct : Value) (us mv ws : List Value), us.length = np → mv.length = ms.length → ws.length = ks.length →
      KwChain D ((ms.map (·.1)).zip mv) (bindArgs (PySem.W.fnOf x qual params body scope .none (.ref D) doc pm an cdv ct) ⟨us, ks.zip ws⟩) (ps.zip (pmI is (us ++ ws ++ mv))))
    (hpm : ∀ vs zs : List V, vs.length = np → zs.length = ks.length → pmI is (vs ++ zs ++ ms.map (·.2)) = pmV (vs ++ zs) pm) : CalKX Pg w K mg base k n x S np ks pm := by
  obtain ⟨mv, hb⟩ := FunD.kbinds0 D np ks ms (fun us mz ws => pmI is (us ++ ws ++ mz)) hk hms (fun r1 r2 r3 => pmI_vals (Vals.app (Vals.app r1 r3) r2) is) h
  exact ⟨fa, fd, ps, _, _, F, hm, D.kp, hb, hpm⟩
def fKw (np nk : Nat) (pm : List Pm) (fs fk : TAF) : TAF := fPerm pm (fCat (fLenA np fs) (fLenA nk fk))
section
variable {X : Cx} {e : Expr} {es : List Expr} {kws : List Keyword} {pos p : Pos} {x : Str} {k j n np nk : Nat} {S : FSX} {fs fk : TAF} {ks : List Str} {pm : List Pm}
theorem pcx_pos (cl : CalX X.prog X.w X.K X.mg X.base k n x S) (hr : Room j X.A) (hk : k ≤ j) (hg : Gl X x) (ha : VA X (e :: es) fs)
    (hdb : (x == ("__debug__" : Str)) = false := by decide) (he : starEach (e :: es) X.env = (false, eval e X.env) :: starEach es X.env := by rfl) (hpl : (backTo pos (starEach es X.env)).any (·.1) = false := by rfl) : PCx X (.Call (.Name x p) (e :: es) [] pos) n S fs := fun W tk => by
  obtain ⟨fa, fd, ps, F, hm, hk', hb⟩ := cl.ex
  exact pe_callS F (hr.mono hk) hg hm hk' hb (passAt tk) ha hdb he hpl
theorem pcx_kw (cl : CalKX X.prog X.w X.K X.mg X.base k n x S np ks pm) (hr : Room j X.A) (hk : k ≤ j) (hg : Gl X x) (hnk : ks.length = nk) (ha : VA X (e :: es) fs) (hkw : VKw X kws fk)
    (hall : (backToKw pos (keywordEach kws X.env)).all (·.1.isSome) = true := by rfl) (hks : (backToKw pos (keywordEach kws X.env)).filterMap (·.1) = ks := by rfl)
    (hdb : (x == ("__debug__" : Str)) = false := by decide) (he : starEach (e :: es) X.env = (false, eval e X.env) :: starEach es X.env := by rfl)
    (hpl : ((backTo pos (starEach (e :: es) X.env)).any (·.1) || (backToKw pos (keywordEach kws X.env)).any (·.1.isNone)) = false := by rfl) : PCx X (.Call (.Name x p) (e :: es) kws pos) n S (fKw np nk pm fs fk) := fun W tk => by
  subst hnk
  obtain ⟨fa, fd, ps, g, gV, F, hm, hk', hb, hgV⟩ := cl.ex
  refine (pe_callNS F (hr.mono hk) hg hm hk' hb (passAt tk) ha hkw hall hks hdb he hpl).pwi fun σ H Q h => ?_
  have h2 := lenA_core (cat_core (perm_core h))
  refine tAO_mono h2 fun vs H1 ⟨l1, h3⟩ => tAO_mono (lenA_core h3) fun zs H2 ⟨l2, h4⟩ => ⟨l1, l2, ?_⟩
  rw [hgV vs zs l1 l2]
  exact h4
end
/-! ### where it is called -/
def fCallX (n : Nat) (S : FSX) (fa : TAF) : TF := fun ρ Q => fa ρ fun os ρ1 => match dsO os with
  | some ds => ds.length = n ∧ S (ds.map fun d => .own (.d d)) (fun t _ => Q (.val t) ρ1) (fun _ => False)
  | none => False
def sAsgX (n : Nat) (S : FSX) (fa : TAF) (g : GF) : SF := fun E ρ => fa ρ fun os ρ1 => match dsO os with
  | some ds => ds.length = n ∧ S (ds.map fun d => .own (.d d)) (fun t _ => g t ρ1 E.nx) (fun x => E.xe x ρ1)
  | none => False
def sDropX (n : Nat) (S : FSX) (fa : TAF) : SF := fun E ρ => fa ρ fun os ρ1 => match dsO os with
  | some ds => ds.length = n ∧ S (ds.map fun d => .own (.d d)) (fun _ _ => E.nx ρ1) (fun x => E.xe x ρ1)
  | none => False
def sRetX (n : Nat) (S : FSX) (fa : TAF) : SF := fun E ρ => fa ρ fun os ρ1 => match dsO os with
  | some ds => ds.length = n ∧ S (ds.map fun d => .own (.d d)) (fun t _ => E.rt t ρ1) (fun x => E.xe x ρ1)
  | none => False
section
variable {X : Cx} {fx : List Nat} {e tg : Expr} {pos : Pos} {n : Nat} {S : FSX} {fa : TAF} {g : GF}
/-- the callee's answer, its way out -/
theorem callX_core {W : WX} {P : Addr → Prop} {σ : St} {H : Hp} {W0 : List Addr} {ρ : List Slot} {Q : VK} {A : T → List Slot → Prop} {B : Exn → List Slot → Prop} (G : Good X.K P H ρ σ W0)
    (h : fa ρ fun os ρ1 => match dsO os with
      | some ds => ds.length = n ∧ S (ds.map fun d => .own (.d d)) (fun t _ => A t ρ1) (fun x => B x ρ1)
      | none => False)
    (kA : ∀ v H' t ρ', Res X.K P H σ W0 v H' (.val t) ρ' → A t ρ' → Q v H')
    (kB : ∀ x H' ρ', ResS X.K P fx H σ W0 σ H' ρ' → B x ρ' → ∀ cls d, ExRep X.K X.mg H' x cls d → W cls d σ H') : tCallS (spX X.K X.mg n S) (WE W) (tAO X.K fa) σ H Q := by
  refine ⟨P, ρ, W0, _, G, h, fun vs H1 os ρ1 r1 h1 => ?_⟩
  have r1' := r1
  obtain ⟨ws, W1', st', nd', sr', rp'⟩ := r1'
  split at h1
  · rename_i ds hds
    obtain ⟨hl, hS⟩ := h1
    have rd := dsO_rep hds rp'
    obtain ⟨ws2, W1, G1, st, nd, rp⟩ := r1.good G
    refine ⟨by rw [rd.length, hl], fun _ => False, _, [], _, _, ⟨sr_vals rd, by simp, fun b hb => hb.elim⟩, hS, ?_, ?_⟩
    · intro r H2 t fin w2 W2 st2 nd2 _ rt hR
      have sm : Same H1 H2 := fun b o hb => st2.keep b o hb (by simp)
      have G2 : Good X.K P H2 ρ1 σ W1 := ⟨G1.sr.after (W0 := []) (fun b o h _ => sm b o h) (by simp) (by simp) (by simp), G1.nd, fun b hb => ⟨(G1.ap b hb).1, let ⟨o, e⟩ := (G1.ap b hb).2; ⟨o, sm _ _ e⟩⟩⟩
      have fresh : ∀ b ∈ w2, H1 b = none := fun b hb => by
        rcases st2.new b (List.mem_append_left _ hb) with z | z
        · cases z
        · exact z
      refine kA _ _ t _ ⟨w2, W1, ⟨fun b o hb hn => sm b o (st.keep b o hb hn), fun b hb => ?_⟩, nd_mk (nd_left nd2) G1.nd fun b hb hz => ?_, G2.sr, rt⟩ hR
      · rcases List.mem_append.mp hb with z | z
        · by_cases hw : b ∈ W0
          · exact .inl hw
          · refine .inr ?_
            cases q : H b with
            | none => rfl
            | some o =>
              have := st.keep b o q hw
              rw [fresh b z] at this; cases this
        · exact st.new b (List.mem_append_right _ z)
      · obtain ⟨o, ho⟩ := (G1.mut b hz).there
        rw [fresh b hb] at ho; cases ho
    · intro xn cls d H2 W2 st2 er hx
      have sm : Same H1 H2 := fun b o hb => st2.keep b o hb (by simp)
      have G2 : Good X.K P H2 ρ1 σ W1 := ⟨G1.sr.after (W0 := []) (fun b o h _ => sm b o h) (by simp) (by simp) (by simp), G1.nd, fun b hb => ⟨(G1.ap b hb).1, let ⟨o, e⟩ := (G1.ap b hb).2; ⟨o, sm _ _ e⟩⟩⟩
      exact kB xn H2 ρ1 ⟨W1, ⟨fun b o hb hn => sm b o (st.keep b o hb hn), fun b hb => st.new b (List.mem_append_right _ hb)⟩, G2, .refl⟩ hx cls d er
  · exact h1.elim
theorem any_up {x : Exn} {σ : St} {H : Hp} (h : XUp X x σ H) : ∀ cls d, ExRep X.K X.mg H x cls d → WAny X cls d σ H := fun cls d er => by
  obtain ⟨W, tk, hW⟩ := h
  exact ⟨W, tk, hW cls d er⟩
theorem ve_callX (hc : PCx X e n S fa) : VE X e (fCallX n S fa) :=
  (hc (WAny X) takes_any).pwi fun σ H Q ⟨P, ρ, W, R, G, q, k⟩ => callX_core (fx := []) (A := fun t ρ1 => R (.val t) ρ1) (B := fun _ _ => False) G q (fun v H' t ρ' r hR => k _ _ _ _ r hR) fun _ _ _ _ hB => hB.elim
theorem vs_asgX (hc : PCx X e n S fa) (hg : VG X fx tg g)
    (hs : swapsWithSole [tg] e pos.line X.env = pure false := by rfl) (hw : swappedStores [tg] e X.env = pure none := by rfl)
    (h1 : (assignEach [tg] X.env).map (·.2) = [assign tg X.env] := by rfl) : VS X fx (.Assign [tg] e pos) (sAsgX n S fa g) :=
  PS.pwi (ps_asg (hc (WAny X) takes_any) hg hs hw h1) fun D σ H ⟨P, ρ, W, E, G, q, k1, k2, k3, k4, k5⟩ =>
    callX_core (fx := fx) (A := fun t ρ1 => g t ρ1 E.nx) (B := fun x ρ1 => E.xe x ρ1) G q (fun v H1 t ρ1 r1 hR => by
      obtain ⟨ws, W1, st, nd, sr, rt⟩ := r1
      have ap := G.apart st
      exact ⟨P, ρ1, W1, ws, t, _, sr, nd, ap, rt, hR, fun σ' H' ρ' rs hN => by
        obtain ⟨W2, st2, G2, hx⟩ := rs
        exact k1 _ _ _ ⟨W2, by simpa using st.trans (ws := []) (by simpa using st2) (by simpa using nd), G2, hx⟩ hN⟩) fun x H' ρ' r hB => any_up (k5 _ _ _ _ r hB)
theorem vs_dropX (hc : PCx X e n S fa) (hs : swapsWith e none pos.line X.env = pure false := by rfl) : VS X fx (.Expr e pos) (sDropX n S fa) :=
  PS.pwi (ps_expr (hc (WAny X) takes_any) hs) fun D σ H ⟨P, ρ, W, E, G, q, k1, k2, k3, k4, k5⟩ =>
    callX_core (fx := fx) (A := fun _ ρ1 => E.nx ρ1) (B := fun x ρ1 => E.xe x ρ1) G q (fun v H1 t ρ1 r1 hR => by
      obtain ⟨ws, W1, st, nd, sr, rt⟩ := r1
      have ap := G.apart st
      exact k1 _ _ _ ⟨W1, st.drop, ⟨sr, nd_right nd, fun b hb => ⟨fun z => (ap b hb).1 (List.mem_append_right _ z), (ap b hb).2⟩⟩, .refl⟩ hR) fun x H' ρ' r hB => any_up (k5 _ _ _ _ r hB)
/-! ### try -/
variable {c : Value} {b₀ : Stmt} {bs : List Stmt} {cm : Str → Bool} {suite : Addr → Addr → Exn → SF} {cx nm y z : Str} {ie iy k2 j1 : Nat} {p1 p3 pos' np q1 q2 : Pos}
theorem vs_tryXE (hs : X.stack = X.env :: X.outer) (hf : X.env.frame = some X.env.locals) (hN : X.N.Nodup) (hi : X.N[ie]? = some nm) (hln : X.env.kindOf nm = some .local) (hfe : ie ∉ fx) (hcN : Names X cx c)
    (hcm : ∀ s cls, X.mg s = some cls → cm s = true → PySem.W.exmOne X.K cls c = some true) (hc : ∀ (pn : List (Addr × Obj)) (xe : Value → Shared → Prop), PCx (X.tr pn xe) e n S fa)
    (hsu : ∀ (a dd : Addr) (xn : Exn) (cls : Value) (oe : Obj) (pn : List (Addr × Obj)), cm xn.cls = true → X.mg xn.cls = some cls → Zc cls (some dd) oe → (∃ vs, oe.data = .fields vs) → VSs (X.suite a ((a, oe) :: pn)) fx (b₀ :: bs) (suite a dd xn))
    (hsw : swapsWith e none p3.line X.env = pure false := by rfl) :
    VS X fx (.Try [.Expr e p3] [.ExceptHandler (some (.Name cx np)) (some nm) (b₀ :: bs) pos'] [] [] pos)
      (sTry n ie cm S fa (fun _ E ρ1 => E.nx ρ1) suite) := by
  refine PS.pwI (ps_try_as hs hf hN hi hln hcN takes_any (fun W pn xe tk hp => pss_cons (ps_expr (show PE (X.tr pn xe) e ((fun W' => tCallS (spX X.K X.mg n S) (WE W') (tAO X.K fa)) W) from hc pn xe W tk) hsw) pss_nil) fun a oe cls d pn hz hd => sui_ok hsu hz hd) fun pins s De σ H I h => ?_
  refine try_core I.len.symm (List.getElem?_eq_some_iff.mp hi).1 hfe hcm h fun P ρ W E ρ1 H1 H2 W1 d v G G2 st rd hgd k1 => ?_
  exact k1 _ _ _ ⟨W1, st, G2, .refl⟩ hgd
theorem vs_tryXN (hs : X.stack = X.env :: X.outer) (hf : X.env.frame = some X.env.locals) (hN : X.N.Nodup) (hi : X.N[ie]? = some nm) (hln : X.env.kindOf nm = some .local) (hfe : ie ∉ fx) (hcN : Names X cx c)
    (hcm : ∀ s cls, X.mg s = some cls → cm s = true → PySem.W.exmOne X.K cls c = some true) (hc : ∀ (pn : List (Addr × Obj)) (xe : Value → Shared → Prop), PCx (X.tr pn xe) e n S fa)
    (hsu : ∀ (a dd : Addr) (xn : Exn) (cls : Value) (oe : Obj) (pn : List (Addr × Obj)), cm xn.cls = true → X.mg xn.cls = some cls → Zc cls (some dd) oe → (∃ vs, oe.data = .fields vs) → VSs (X.suite a ((a, oe) :: pn)) fx (b₀ :: bs) (suite a dd xn))
    (hy : X.N[iy]? = some y) (hfy : iy ∉ fx) (hpg : ∀ (pn : List (Addr × Obj)) (xe : Value → Shared → Prop), PG (X.tr pn xe) (.Name y p1) (gName iy))
    (hsw : swapsWithSole [.Name y p1] e p3.line X.env = pure false := by rfl) (hw : swappedStores [.Name y p1] e X.env = pure none := by rfl)
    (h3 : (assignEach [.Name y p1] X.env).map (·.2) = [assign (.Name y p1) X.env] := by rfl) :
    VS X fx (.Try [.Assign [.Name y p1] e p3] [.ExceptHandler (some (.Name cx np)) (some nm) (b₀ :: bs) pos'] [] [] pos)
      (sTry n ie cm S fa (fun d E ρ1 => E.nx (ρ1.set iy (.own (.d d)))) suite) := by
  refine PS.pwI (ps_try_as hs hf hN hi hln hcN takes_any (fun W pn xe tk hp => pss_cons (ps_asg (show PE (X.tr pn xe) e ((fun W' => tCallS (spX X.K X.mg n S) (WE W') (tAO X.K fa)) W) from hc pn xe W tk) (hpg pn xe) hsw hw h3) pss_nil) fun a oe cls d pn hz hd => sui_ok hsu hz hd) fun pins s De σ H I h => ?_
  have li : iy < σ.length := by rw [I.len]; exact (List.getElem?_eq_some_iff.mp hy).1
  refine try_core I.len.symm (List.getElem?_eq_some_iff.mp hi).1 hfe hcm h fun P ρ W E ρ1 H1 H2 W1 d v G G2 st rd hgd k1 => ?_
  exact k1 _ _ _ (put_core (ws := []) (W1 := W1) (t := .d d) (by simpa using G2.ap) ⟨fun b o hb hn => st.keep b o hb hn, fun b hb => st.new b (by simpa using hb)⟩ (by simpa using G2.nd) G2.sr ⟨rd, rfl⟩ li hfy .refl) hgd
end
end PW
end PwXc
section PwGd
set_option maxRecDepth 100000
/-! PwGd: defs that are called where no text of a container is being made: what they may do beyond others is repr of containers. -/
namespace PW
open PySem PySem.Spec L2
open PyProof.Rows hiding St
/-- as a def's promise, where the frames around make no text of a container -/
structure FnG (P : Program) (w : World) (K : PySem.W.Frag) (mg : Str → Option Value) (base : Heap) (CX : CXT) (k : Nat) (f : Addr) (fd : FuncData) (ps : List Str) (sp : Sp) : Prop where
  len : ∀ vs H Q E, sp vs H Q E → vs.length = ps.length
  run : ∀ (A : Around) (outer : List Env) (s : Shared) (H : Hp) (args : Args) (us : List Value) (vs : List V) (Q : VK) (E : XK), A.guards = some [] → Room k A → Env0 P w K mg base A outer s H → BindsTo s fd args (ps.zip us) → Vals vs us → sp vs H Q E →
    codeAny (model P w) A (.call (.ref f) args) (CR CX outer P w H s Q E) s
theorem guards_deeper {A : Around} {env : Env} (h : A.guards = some []) : (A.deeper env).guards = some [] := h
theorem fnG_of {CX : CXT} {P : Program} {w : World} {K : PySem.W.Frag} {mg : Str → Option Value} {base : Heap} {k : Nat} {f : Addr} {name qual : Str} {params : Arguments} {body : List Stmt} {scope : Scope} {dV kV doc pm cdv ct oc : Value} {an od : Option Addr}
    {osl : Array (Option Value)} {N ps : List Str} {sp : Sp} (lk : K.lookup f = some ⟨oc, od, .func (PySem.W.fnOf name qual params body scope dV kV doc pm an cdv ct), osl⟩) (hcd : PySem.W.codeIn K cdv qual = true) (S : FnScope N ps scope)
    (len : ∀ vs H Q E, sp vs H Q E → vs.length = ps.length)
    (hbody : ∀ (A : Around) (outer : List Env) (s : Shared) (H : Hp) (vs : List V) (Q : VK) (E : XK), (A.deeper (envOfC qual scope s.heap.objs.size f cdv)).guards = some [] → Room k (A.deeper (envOfC qual scope s.heap.objs.size f cdv)) → sp vs H Q E →
      ∃ t, PSs (cxOf CX P w K mg base N qual scope f cdv A outer s H E) body t ∧ t { nx := fun _ H' => Q .non H', rt := Q } (start N vs) H) :
    FnG P w K mg base CX (k + 1) f (PySem.W.fnOf name qual params body scope dV kV doc pm an cdv ct) ps sp := by
  refine ⟨len, fun A outer s H args us vs Q E hg0 hr e0 hb r hsp => ?_⟩
  have hl := len _ _ _ _ hsp
  have KX : K.In s.heap := e0.mod.kin.keeps fun b o e => (e0.bs b o e).1
  have lim : s.heap.NoLimit := e0.mod.nolimit.keeps fun b o e => (e0.bs b o e).1
  have hkind : ∀ y ∈ ps.zip us, scope.names.lookup y.1 = some .local ∨ (scope.names.lookup y.1 = some .cell ∧ ((cellsFrom (s.heap.objs.size + 1) scope.names []).lookup y.1).isSome = true) := fun ⟨n, v⟩ hy => by
    rcases S.par n (List.of_mem_zip hy).1 with q | q
    · exact .inl q
    · exact .inr ⟨q, PySem.W.cellsFrom_some _ _ _ (.inl q)⟩
  refine codeAny_call_function hr.depth (KX _ _ lk) rfl S.co S.gen rfl (PySem.W.codeRec_of KX hcd) (hb _ _ _ _ ?_)
  refine wpAny_newFunctionEnv_cells S.kind hkind fun env he s1 x => ?_
  subst he
  refine ⟨lim.keeps x.toInCall.keep, codeAny_func ?_⟩
  obtain ⟨t, ht, hq⟩ := hbody A outer s H vs Q E (guards_deeper hg0) (hr.deeper _) hsp
  have I : Inv (cxOf CX P w K mg base N qual scope f cdv A outer s H E) [] (start N vs) H s1 := inv_start S hr.hd e0 hl r x
  refine wpAny_mono (ht.run [] s1 (start N vs) H _ I hq) (fun fl s' hs => ?_) fun e s' hs => hs
  have fin : ∀ {σ' : St} {H' : Hp} {v : V} {u : Value}, Inv (cxOf CX P w K mg base N qual scope f cdv A outer s H E) [] σ' H' s' → RelV v u → Q v H' → CE outer P w H s Q u s' :=
    fun {σ' H' v u} J rv q => ⟨v, H', J.os, J.bare, J.base, J.hok, rv, q⟩
  cases fl with
  | ret u =>
    obtain ⟨v, σ', H', J, rv, q⟩ := hs
    exact fin J rv q
  | next =>
    obtain ⟨σ', H', J, q⟩ := hs
    exact fin (v := V.non) (u := Value.none) J rfl q
  | brk =>
    obtain ⟨_, _, _, q⟩ := hs
    exact False.elim q
  | cont =>
    obtain ⟨_, _, _, q⟩ := hs
    exact False.elim q
theorem law_callG {P : Program} {w : World} {K : PySem.W.Frag} {mg mb : Str → Option Value} {CX : CXT} {k : Nat} {fa a : Addr} {fd : FuncData} {x : Str} {sp : Sp} {s₁ : Shared} {vs : List Value} {ns : List Int}
    (KX : K.In s₁.heap) (hns : s₁.heap.Ns mainGlobals mg) (hb : s₁.heap.Ns builtinsNs mb) (hbb : ∀ x : Str, x ≠ "__name__" → mb x = bootBuiltins x) (hlim : s₁.heap.NoLimit) (hg : s₁.gens = #[])
    (ha : s₁.heap.get? a = some { cls := .type "list", data := .seq vs.toArray }) (hi : IntsAre vs ns) (hl : ns.length ≤ sizeLine) (hr : Room k callerA)
    (F : ∀ base : Heap, K.In base → base.Ns mainGlobals mg → FnG P w K mg base CX k fa fd [x] sp) (hbind : ∀ (s : Shared) (u : Value), BindsTo s fd ⟨[u], []⟩ [(x, u)])
    (hsp : ∀ H : Hp, Only H → SqL K H a (ns.map V.int) → sp [.ref a] H (fun v _ => v = .bl true) fun _ _ _ => False)
    (hCX : ∀ H e s', CX [] H s₁ (fun _ _ _ => False) e s' → False) :
    codeAny (model P w) callerA (.call (.ref fa) ⟨[.ref a], []⟩) (fun r s' => r = .ok (.ret (.bool true)) ∧ OldK s₁.heap s'.heap ∧ s'.os = s₁.os ∧ AllBare s'.gens) s₁ := by
  have rv := vals_ints hi
  have lenV := hi.length
  -- from an abstract heap in which nothing but the script may be tracked
  have core : ∀ H : Hp, Only H → SqL K H a (ns.map V.int) → HOk P w H s₁.heap → (∀ b, H b ≠ none → b = a) → (H a ≠ none → K.lookup a = none) →
      codeAny (model P w) callerA (.call (.ref fa) ⟨[.ref a], []⟩) (fun r s' => r = .ok (.ret (.bool true)) ∧ OldK s₁.heap s'.heap ∧ s'.os = s₁.os ∧ AllBare s'.gens) s₁ := by
    intro H hO hS hok hA hK
    have base_of : ∀ {b : Addr} {o : Obj}, s₁.heap.get? b = some o → H b = none → (hidT s₁.heap H).get? b = some o := fun e n => hidT_get e n
    have noA : ∀ {b : Addr} {o : Obj} {es : Array DictEntry} {ep : Nat}, s₁.heap.get? b = some o → o.data = .dict es ep → H b = none := fun {b o es ep} e d => by
      cases q : H b with
      | none => rfl
      | some u =>
        have e' : b = a := hA b (by rw [q]; simp)
        subst e'
        rw [ha] at e; cases e
        have d' : Data.seq vs.toArray _ = Data.dict es ep := d
        cases d'
    have nsK : ∀ {b : Addr} {m : Str → Option Value}, s₁.heap.Ns b m → (hidT s₁.heap H).Ns b m := fun {b m} ⟨o, es, ep, e, d, r⟩ => ⟨o, es, ep, base_of e (noA e d), d, r⟩
    have hKb : K.In (hidT s₁.heap H) := fun b o e => base_of (KX b o e) (by
      cases q : H b with
      | none => rfl
      | some u =>
        have e' : b = a := hA b (by rw [q]; simp)
        subst e'
        rw [hK (by rw [q]; simp)] at e; cases e)
    have hM : Mod K mg (hidT s₁.heap H) := ⟨hKb, nsK hns, ⟨mb, nsK hb, hbb⟩, let ⟨mc, h1, h2⟩ := hlim; ⟨mc, nsK h1, h2⟩⟩
    have e0 : Env0 P w K mg (hidT s₁.heap H) callerA [] s₁ H := ⟨rfl, hM, fun b o e => of_hidT e, Nat.le_of_eq (hidT_size _ _), trivial, fun b hb => absurd (show b ∈ ([] : List Addr) from hb) (by simp), hok, .of_eq hg⟩
    refine codeAny_mono ((F _ hKb (nsK hns)).run callerA [] s₁ H ⟨[.ref a], []⟩ [.ref a] [.ref a] _ _ rfl hr e0 (hbind s₁ (.ref a)) (.cons rfl .nil) (hsp H hO hS)) fun r s' h => ?_
    cases r with
    | error e => exact (hCX H e s' h).elim
    | ok fl =>
      cases fl with
      | next => exact False.elim h
      | brk => exact False.elim h
      | cont => exact False.elim h
      | ret u =>
        obtain ⟨v, H', os, bare, un, hok', r', q⟩ := h
        have q' : v = .bl true := q
        subst q'
        obtain rfl : u = Value.bool true := r'
        refine ⟨rfl, OldK.of_keep fun b o e => ?_, os, bare⟩
        cases q : H b with
        | none => exact un.keep b o e q (by intro z; exact absurd (show b ∈ ([] : List Addr) from z) (by simp)) (by simp)
        | some u =>
          rcases hO b with z | ⟨ob, xs, z⟩
          · rw [q] at z; cases z
          · have z2 := un.frzs b ob _ z
            obtain ⟨e1, _⟩ := hok b _ z
            obtain ⟨e2, _⟩ := hok' b _ z2
            rw [e] at e1; cases e1
            exact e2
  cases hk : K.lookup a with
  | some o =>
    -- the script is one of the module's own objects
    have e := KX a o hk
    rw [ha] at e
    cases e
    refine core (fun _ => none) (fun _ => .inl rfl) (.inr ⟨_, vs.toArray, _, hk, rfl, rfl, rfl, by rw [List.size_toArray, lenV]; exact hl, by simpa using rv⟩) (fun b u z => by have z' : (none : Option HO) = some u := z; cases z') (fun b z => absurd rfl z) fun z => absurd rfl z
  | none =>
    refine core (fun b => if b = a then some (.frz { cls := .type "list", data := .seq vs.toArray } (.lst (ns.map V.int))) else none) (fun b => ?_) (.inl (.inr ⟨{ cls := .type "list", data := .seq vs.toArray }, if_pos rfl⟩)) (fun b u z => ?_) (fun b z => ?_) fun _ => hk
    · by_cases hb : b = a
      · exact .inr ⟨_, _, if_pos hb⟩
      · exact .inl (if_neg hb)
    · by_cases hb : b = a
      · have z' := (if_pos hb).symm.trans z
        cases z'
        subst hb
        exact ⟨ha, by rw [List.length_map]; exact hl, vs, _, rv, ha⟩
      · have z' := (if_neg hb).symm.trans z
        cases z'
    · by_cases hb : b = a
      · exact hb
      · exact absurd (if_neg hb) z
section
variable {Pg : Program} {w : World} {K : PySem.W.Frag} {mg : Str → Option Value} {base : Heap}
theorem fn_okG {x qual : Str} {st : Stmt} {f : Addr} {fd : FuncData} {N ps : List Str} {k n : Nat} {S : FS} {sf : SF} {fx : List Nat} (F : Fun K x qual st f fd) (sc : FnScope N ps (defScope st)) (hn : ps.length = n)
    (hb : ∀ (cdv : Value) (A : Around) (outer : List Env) (s : Shared) (H : Hp) (E : XK), (A.deeper (envOfC qual (defScope st) s.heap.objs.size f cdv)).guards = some [] → Room k (A.deeper (envOfC qual (defScope st) s.heap.objs.size f cdv)) → VSs (cxOf CX0 Pg w K mg base N qual (defScope st) f cdv A outer s H E).nox fx (defBody st) sf)
    (hS : ∀ ss R, ss.length = n → S ss R → sf { nx := fun ρ => R (.d .none) (finS fx n ρ), rt := fun t ρ => R t (finS fx n ρ) } (ss ++ List.replicate (N.length - n) .un)) : FnG Pg w K mg base CX0 (k + 1) f fd ps (spO K n S) := by
  obtain ⟨oc, od, kV, doc, pm, an, cdv, ct, osl, rfl, lk, hcd⟩ := F.ex
  refine fnG_of lk hcd sc (fun vs H Q E h => by rw [h.1, hn]) fun A outer s H vs Q E hg0 hr h => ?_
  obtain ⟨hl, P, ss, W, R, G, hSS, kR⟩ := h
  refine ⟨_, (show PSs _ _ _ from hb cdv A outer s H E hg0 hr).nox, ?_⟩
  have hpl : ps.length ≤ N.length := by have := congrArg List.length sc.pre; rw [List.length_take] at this; omega
  have hss : ss.length = n := by rw [← G.sr.len, List.length_map]; exact hl
  have G0 : Good K P H (ss ++ List.replicate (N.length - n) .un) (L2.start N vs) W := by
    have go : ∀ {ss : List Slot} {σ : St} {W : List Addr} (m : Nat), SR K P H ss σ W → SR K P H (ss ++ List.replicate m .un) (σ ++ List.replicate m none) W := by
      intro ss
      induction ss with
      | nil =>
        rintro σ W m ⟨rfl, rfl⟩
        induction m with
        | zero => exact ⟨rfl, rfl⟩
        | succ m ih => exact ⟨none, _, rfl, ih⟩
      | cons s ss ih =>
        intro σ W m h
        cases s with
        | un => obtain ⟨o, r, rfl, h⟩ := h; exact ⟨o, _, rfl, ih m h⟩
        | own t => obtain ⟨v, r, w1, w2, rfl, q, h, rfl⟩ := h; exact ⟨v, _, w1, w2, rfl, q, ih m h, rfl⟩
        | hid t => obtain ⟨v, r, w, rfl, q, hn, h⟩ := h; exact ⟨v, _, w, rfl, q, hn, ih m h⟩
    refine ⟨?_, G.nd, G.ap⟩
    unfold L2.start
    rw [hl]
    exact go _ G.sr
  have hstart : (L2.start N vs).length = N.length := by
    unfold L2.start
    rw [List.length_append, List.length_map, List.length_replicate]
    omega
  have fin : ∀ {σ' : St} {H' : Hp} {ρ' : List Slot} {W' : List Addr}, SR K P H' ρ' σ' W' → Fx fx (L2.start N vs) σ' → ∃ W1, SR K P H' (finS fx n ρ') (vs.map some) W1 ∧ W1.Sublist W' := fun {σ' H' ρ' W'} sr hx => by
    refine sr.fin (by rw [← sr.len, hx.2, hstart]; omega) (by simpa using hl) fun i hi hlt => ?_
    rw [hx.1 i hi]
    unfold L2.start
    rw [List.getElem?_append_left (by simpa [hl] using hlt)]
  refine ⟨P, _, W, _, G0, hS ss R hss hSS, fun σ' H' ρ' r hR => ?_, fun v H' t ρ' r hR => ?_, fun _ _ _ _ h => h.elim, fun _ _ _ _ h => h.elim, fun _ _ _ _ _ h => h.elim⟩
  · obtain ⟨W', st, G', hx⟩ := r
    obtain ⟨W1, s1, sb⟩ := fin G'.sr hx
    exact kR .non H' (.d .none) _ [] W1 ⟨st.keep, fun b hb => st.new b (sb.subset (by simpa using hb))⟩ (by simpa using G'.nd.sublist sb) s1 ⟨rfl, rfl⟩ hR
  · obtain ⟨ws, W', σ', st, nd, sr, rp, hx⟩ := r
    obtain ⟨W1, s1, sb⟩ := fin sr hx
    exact kR v H' t _ ws W1 ⟨st.keep, fun b hb => st.new b ((List.Sublist.append (List.Sublist.refl ws) sb).subset hb)⟩ (nd.sublist (List.Sublist.append (List.Sublist.refl ws) sb)) s1 rp hR
end
theorem law_walkG {l : PySem.W.OpenLaw} {q : Program} {loose : List Str} {XP : (Str → Option Value) → Heap → Prop} {YP : World → Heap → Prop} {d : DefRec} {K : Params → PySem.W.Frag} {k : Nat} {x : Str} (hn : l.most = some 63) (hdf : d.params.defaults = []) (hr : Room k callerA)
    (hY : ∀ (w : World) (h : Heap), YP w h → (K w.params).In h)
    (F : ∀ (w : World) (mg : Str → Option Value) (fa : Addr) (h : Heap), (K w.params).In h → h.Ns mainGlobals mg → mg d.name = some (.ref fa) →
      ∃ fd : FuncData, (∀ (s : Shared) (u : Value), BindsTo s fd ⟨[u], []⟩ [(x, u)]) ∧ ∀ base : Heap, (K w.params).In base → base.Ns mainGlobals mg → FnG l.prog w (K w.params) mg base CX0 k fa fd [x] (spO (K w.params) 1 S_law)) :
    PySem.W.WalkO q loose XP YP l.row.toRowW d [] (fun f vs => PySem.call f vs) := by
  refine Att.attach_call hn hdf fun w s₀ s₁ mg mb fa o pm cd doc a vs ns G Y ho hd hcd hmg hobj hints hlen hg => ?_
  have KX := hY w _ Y
  obtain ⟨fd, hb, hF⟩ := F w mg fa _ KX G.T.g hmg
  exact law_callG KX G.T.g G.T.b G.T.builtins G.T.nolimit hg hobj hints (Nat.le_trans hlen (by decide)) hr hF hb (fun H hO hS => law_sp hlen hO hS _) fun H e s' z => z
end PW
end PwGd
section PwRp
set_option maxRecDepth 100000
/-! PwRp: repr of lists and tuples; how long it is. -/
namespace PW
open PySem PySem.Spec L2
open PyProof.Rows hiding St
section
variable {X : Cx}
/-- repr(x) of a list or a tuple -/
def rReprD (K : PySem.W.Frag) : List V → Hp → VK → Prop := fun vs H Q => ∃ (a : Addr) (d : PyData), vs = [.ref a] ∧ Dp K H (.ref a) d ∧ d.showable = true ∧ d.hasDict = false ∧ d.depth ≤ 60 ∧ d.shown.length ≤ sizeLine ∧ Q (.str d.shown) H
theorem call_reprD (hg : X.A.guards = some []) (hu : X.A.units + 64 < cLine) : CallR X (.builtin "repr") (rReprD X.K) := by
  intro pins s σ H vs us Q I r h
  obtain ⟨a, d, rfl, hd, hs, hn, hdp, hz, q⟩ := h
  rw [Vals.ref1 r]
  obtain ⟨as, rd⟩ := Dp.reads I d (.ref a) (.ref a) hd rfl
  refine PySem.repr_of_reads' rd hs (fun z => by rw [hn] at z; cases z) hg (by omega) (fun _ _ e => e) (fun h' u tk hk => ?_) hz
  exact ⟨.str _, H, I.kept hk, ⟨_, rfl⟩, q⟩
def oRepr : OF := fun ts R => match ts with
  | [.ls xs] => (PyData.showable (.list xs) = true ∧ PyData.hasDict (.list xs) = false ∧ PyData.depth (.list xs) ≤ 60 ∧ (PyData.shown (.list xs)).length ≤ sizeLine) ∧ R (.d (.str (PyData.shown (.list xs))))
  | [.d (.list xs)] => (PyData.showable (.list xs) = true ∧ PyData.hasDict (.list xs) = false ∧ PyData.depth (.list xs) ≤ 60 ∧ (PyData.shown (.list xs)).length ≤ sizeLine) ∧ R (.d (.str (PyData.shown (.list xs))))
  | [.d (.tuple xs)] => (PyData.showable (.tuple xs) = true ∧ PyData.hasDict (.tuple xs) = false ∧ PyData.depth (.tuple xs) ≤ 60 ∧ (PyData.shown (.tuple xs)).length ≤ sizeLine) ∧ R (.d (.str (PyData.shown (.tuple xs))))
  | _ => False
theorem oc_repr {K : PySem.W.Frag} : OpOk K oRepr (rReprD K) := by
  intro ts vs H Q R b h k
  unfold oRepr at h
  split at h
  · obtain ⟨v, _, e, a, us, e1, ha, hr, _⟩ := b1 b
    subst e1
    exact ⟨a, _, e, .lst (SqL.of ha) hr.dp, h.1.1, h.1.2.1, h.1.2.2.1, h.1.2.2.2, k _ _ (.d (.str _)) [] (Same.refl _) nofresh (by simp) ⟨rfl, rfl⟩ h.2⟩
  · obtain ⟨v, _, e, ⟨a, us, e1, ha, hr⟩, _⟩ := b1 b
    subst e1
    exact ⟨a, _, e, .lst ha.l hr.dp, h.1.1, h.1.2.1, h.1.2.2.1, h.1.2.2.2, k _ _ (.d (.str _)) [] (Same.refl _) nofresh (by simp) ⟨rfl, rfl⟩ h.2⟩
  · obtain ⟨v, _, e, ⟨a, us, e1, ha, hr⟩, _⟩ := b1 b
    subst e1
    exact ⟨a, _, e, .tup ha hr.dp, h.1.1, h.1.2.1, h.1.2.2.1, h.1.2.2.2, k _ _ (.d (.str _)) [] (Same.refl _) nofresh (by simp) ⟨rfl, rfl⟩ h.2⟩
  · exact h.elim
end
/-! ### how long the text is -/
def TxtLe (b : Nat) (d : PyData) : Prop := d.showable = true ∧ d.shown.length ≤ b
theorem TxtLe.mono {b c : Nat} {d : PyData} (h : TxtLe b d) (l : b ≤ c) : TxtLe c d := ⟨h.1, Nat.le_trans h.2 l⟩
theorem tx_none : TxtLe 4 .none := ⟨rfl, by decide⟩
theorem tx_bool (b : Bool) : TxtLe 5 (.bool b) := ⟨rfl, by cases b <;> decide⟩
theorem tx_int {i : Int} (h : i.natAbs.log2 < 1920) : TxtLe 1921 (.int i) := by
  refine ⟨by simp only [PyData.showable]; exact decide_eq_true h, ?_⟩
  have := int_text_length_le (k := 1920) (by decide) h
  show (Str.ofString (toString i)).length ≤ 1921
  rw [PySem.ofString_length]
  exact this
theorem tx_str {z : Str} (h : PyData.strOk z = true) : TxtLe (10 * z.length + 2) (.str z) := by
  refine ⟨rfl, ?_⟩
  refine PySem.StrLaws.reprText_len z fun c hc => ?_
  unfold PyData.strOk at h
  rw [Array.all_eq_true_iff_forall_mem] at h
  have := h c (by simpa using hc)
  have : c < 0x110000 := by simpa using this
  omega
theorem text_from_le {b : Nat} : ∀ (ts : List Str) (k : Nat) (acc : Str), (∀ t ∈ ts, t.length ≤ b) → (textFrom k acc ts).length ≤ acc.length + ts.length * (b + 2)
  | [], k, acc, _ => by show acc.length ≤ _; omega
  | t :: ts, k, acc, h => by
    have h1 := text_from_le ts (k + 1) (acc ++ (if k > 0 then ", " else "" : String) ++ t) fun x hx => h x (by simp [hx])
    have h2 := h t (by simp)
    have h3 : (Str.ofString (if k > 0 then ", " else "" : String)).length ≤ 2 := by split <;> decide
    show (textFrom (k + 1) (acc ++ (if k > 0 then ", " else "" : String) ++ t) ts).length ≤ _
    rw [Str.length_append, Str.length_append] at h1
    rw [List.length_cons, Nat.succ_mul]
    omega
theorem shown_all : ∀ xs : List PyData, PyData.shownAll xs = xs.map PyData.shown
  | [] => rfl
  | x :: xs => by unfold PyData.shownAll; rw [shown_all xs]; rfl
theorem showable_all : ∀ {xs : List PyData}, (∀ x ∈ xs, x.showable = true) → PyData.showableAll xs = true
  | [], _ => rfl
  | x :: xs, h => by unfold PyData.showableAll; rw [h x (by simp), showable_all fun y hy => h y (by simp [hy])]; rfl
theorem tx_list {b : Nat} {xs : List PyData} (h : ∀ x ∈ xs, TxtLe b x) : TxtLe (xs.length * (b + 2) + 3) (.list xs) := by
  refine ⟨by simp only [PyData.showable]; exact showable_all fun x hx => (h x hx).1, ?_⟩
  simp only [PyData.shown]
  have := text_from_le (b := b) (PyData.shownAll xs) 0 "[" (by
    rw [shown_all]
    intro t ht
    obtain ⟨x, hx, rfl⟩ := List.mem_map.mp ht
    exact (h x hx).2)
  rw [shown_all, List.length_map] at this
  rw [shown_all]
  show (textFrom 0 "[" (xs.map PyData.shown) ++ "]").length ≤ _
  rw [Str.length_append]
  have e1 : (Str.ofString "[").length = 1 := by decide
  have e2 : (Str.ofString "]").length = 1 := by decide
  omega
theorem join_le {b : Nat} : ∀ ts : List Str, (∀ t ∈ ts, t.length ≤ b) → (Str.join ", " ts).length ≤ ts.length * (b + 2)
  | [], _ => by show 0 ≤ _; omega
  | [x], h => by have := h x (by simp); show x.length ≤ _; simp; omega
  | x :: y :: r, h => by
    have h1 := join_le (y :: r) fun t ht => h t (by simp [ht])
    have h2 := h x (by simp)
    show (x ++ ", " ++ Str.join ", " (y :: r)).length ≤ _
    rw [Str.length_append, Str.length_append, List.length_cons, Nat.succ_mul]
    have e1 : (Str.ofString ", ").length = 2 := by decide
    omega
theorem tx_tuple {b : Nat} {xs : List PyData} (h : ∀ x ∈ xs, TxtLe b x) : TxtLe (xs.length * (b + 2) + 3) (.tuple xs) := by
  refine ⟨by simp only [PyData.showable]; exact showable_all fun x hx => (h x hx).1, ?_⟩
  simp only [PyData.shown]
  have := join_le (b := b) (xs.map PyData.shown) (by
    intro t ht
    obtain ⟨x, hx, rfl⟩ := List.mem_map.mp ht
    exact (h x hx).2)
  rw [List.length_map] at this
  rw [shown_all]
  show (("(" : Str) ++ Str.join ", " (xs.map PyData.shown) ++ (if (xs.map PyData.shown).length == 1 then ",)" else ")" : String)).length ≤ _
  rw [Str.length_append, Str.length_append]
  have e1 : (Str.ofString "(").length = 1 := by decide
  have e2 : (Str.ofString (if (xs.map PyData.shown).length == 1 then ",)" else ")" : String)).length ≤ 2 := by split <;> decide
  omega
end PW
end PwRp
section PwAg
set_option maxRecDepth 100000
/-! PwAg: x += n, x -= n for numbers. -/
namespace PW
open PySem PySem.Spec L2
open PyProof.Rows hiding St
def aAdd : Int → Int → (Int → Prop) → Prop := fun i j R => R (i + j)
def aSub : Int → Int → (Int → Prop) → Prop := fun i j R => R (i - j)
theorem oka_add (j k : Int) (H : Hp) (Q : VK) (R : Int → Prop) (h : aAdd j k R) (g : ∀ z, R z → Q (.int z) H) : ipI (fun i j => i + j) (.int j) (.int k) H Q := ⟨j, k, rfl, rfl, g _ h⟩
theorem oka_sub (j k : Int) (H : Hp) (Q : VK) (R : Int → Prop) (h : aSub j k R) (g : ∀ z, R z → Q (.int z) H) : ipI (fun i j => i - j) (.int j) (.int k) H Q := ⟨j, k, rfl, rfl, g _ h⟩
/-! ### x.insert(i, y) -/
def mIns : MF := fun xs ts R => match ts with
  | [.d (.int i), .d y] => (xs.length < sizeLine ∧ 0 ≤ i ∧ i < 2 ^ 63) ∧ R .none (xs.take i.toNat ++ [y] ++ xs.drop i.toNat)
  | _ => False
theorem mk_ins {K : PySem.W.Frag} : MutOk K mIns (fun x vs H Q => ∃ (l : Addr) (xs : List V) (i : Int) (y : V), x = .ref l ∧ vs = [.int i, y] ∧ H l = some (.lst xs) ∧ xs.length < sizeLine ∧ 0 ≤ i ∧ i < 2 ^ 63 ∧ Q .non (upd H l (.lst (xs.take i.toNat ++ [y] ++ xs.drop i.toNat)))) := by
  intro xs ts a xv vs H Q R ha hr b h k
  unfold mIns at h
  split at h
  · rename_i i y
    obtain ⟨v, w, _, _, e, ⟨h1, _⟩, h2, _⟩ := b2 b
    have h1 : v = .int i := h1
    subst h1
    exact ⟨a, xv, i, w, rfl, e, ha, by rw [hr.length]; exact h.1.1, h.1.2.1, h.1.2.2, k _ _ .none (xs.take i.toNat ++ [y] ++ xs.drop i.toNat) (xv.take i.toNat ++ [w] ++ xv.drop i.toNat) (fun b o hb hn => by rw [upd_ne hn]; exact hb) upd_same ((((hr.take _).append (.one h2)).append (hr.drop _)).keep (kept1 ha)) rfl h.2⟩
  · exact h.elim
/-! ### truths that are one -/
def oIsB : OF := fun ts R => match ts with
  | [.d (.bool i), .d (.bool j)] => R (.d (.bool (decide (i = j))))
  | _ => False
def oNotB : OF := fun ts R => match ts with
  | [.d (.bool i), .d (.bool j)] => R (.d (.bool (!decide (i = j))))
  | _ => False
theorem oc_isB {K : PySem.W.Frag} : OpOk K oIsB fun vs H Q => ∃ x y, vs = [x, y] ∧ ∃ a b, x = .bl a ∧ y = .bl b ∧ Q (.bl (decide (a = b))) H := by
  intro ts vs H Q R b h k
  unfold oIsB at h
  split at h
  · obtain ⟨v, w, _, _, e, ⟨h1, _⟩, h2, _⟩ := b2 b
    exact ⟨_, _, e, _, _, h1, h2, k _ _ (.d (.bool _)) [] (Same.refl _) nofresh (by simp) ⟨rfl, rfl⟩ h⟩
  · exact h.elim
theorem oc_notB {K : PySem.W.Frag} : OpOk K oNotB fun vs H Q => ∃ x y, vs = [x, y] ∧ ∃ a b, x = .bl a ∧ y = .bl b ∧ Q (.bl (!decide (a = b))) H := by
  intro ts vs H Q R b h k
  unfold oNotB at h
  split at h
  · obtain ⟨v, w, _, _, e, ⟨h1, _⟩, h2, _⟩ := b2 b
    exact ⟨_, _, e, _, _, h1, h2, k _ _ (.d (.bool _)) [] (Same.refl _) nofresh (by simp) ⟨rfl, rfl⟩ h⟩
  · exact h.elim
end PW
end PwAg
section PwIs
set_option maxRecDepth 100000
/-! PwIs: isinstance(e, (T, U, ..)), any number of built-in types. -/
namespace PW
open PySem PySem.Spec L2
open PyProof.Rows hiding St
section
variable {X : Cx} {es : List Expr} {e : Expr} {pos : Pos} {f : TF}
def tyVs (cs : List Ty) : List V := cs.map fun c => .ty c.name
theorem pa_tys_nil : PA X [] (fun _ H Q => Q (tyVs []) H) := pa_nil
theorem pa_tys_cons {c : Ty} {cs : List Ty} {y : Str} {py : Pos} (hy : Gl X y) (hmy : X.mg y = none) (hv : bootBuiltins y = some (.type c.name)) (hr : PA X es (fun _ H Q => Q (tyVs cs) H)) (hny : y ≠ "__name__" := by decide) (hdy : (y == ("__debug__" : Str)) = false := by decide)
    (hs : starEach (.Name y py :: es) X.env = (false, eval (.Name y py) X.env) :: starEach es X.env := by rfl) : PA X (.Name y py :: es) (fun _ H Q => Q (tyVs (c :: cs)) H) :=
  (pa_cons (pe_bltn (v := .ty c.name) hy hmy hv rfl hny hdy) hr hs).pwi fun σ H Q h => h
def fIsiN (cs : List Ty) (f : TF) : TF := fun ρ Q => f ρ fun o ρ1 => withR ρ1 [o] fun ts => match ts with
  | [.ex _ _ _] => False
  | [.ob _ _] => False
  | [t] => Q (.val (.d (.bool (cs.any fun c => (tyOf t).isi c)))) ρ1
  | _ => False
theorem tys_cls : ∀ cs : List Ty, Paired ClsV (tyVs cs) (cs.map fun c => Value.type c.name)
  | [] => .nil
  | c :: cs => .cons (.ty _) (tys_cls cs)
theorem tys_any {K : PySem.W.Frag} (a : Ty) : ∀ cs : List Ty, PySem.W.kitAny K (.type a.name) (cs.map fun c => Value.type c.name) = some (cs.any fun c => a.isi c)
  | [] => rfl
  | c :: cs => kitAny_cons (Ty.kit a c) (fun hf => by rw [List.any_cons, hf, Bool.false_or]; exact tys_any a cs) fun ht => by rw [List.any_cons, ht]; rfl
theorem ve_isiN {cs : List Ty} {ces : List Expr} {k : Nat} {p tpos : Pos} (hg : Gl X "isinstance") (hm : X.mg "isinstance" = none) (hc : PA X ces (fun _ H Q => Q (tyVs cs) H)) (hl : cs.length ≤ 1000) (ha : VE X e f)
    (hs1 : starEach [e, .Tuple ces k tpos] X.env = (false, eval e X.env) :: starEach [.Tuple ces k tpos] X.env := by rfl) (hs2 : starEach [.Tuple ces k tpos] X.env = (false, eval (.Tuple ces k tpos) X.env) :: starEach [] X.env := by rfl)
    (hpl : (backTo pos (starEach [.Tuple ces k tpos] X.env)).any (·.1) = false := by rfl) :
    VE X (.Call (.Name "isinstance" p) [e, .Tuple ces k tpos] [] pos) (fIsiN cs f) := by
  have := pe_callB (pos := pos) (p := p) call_isiT hg hm boot_isinstance (pa_cons ha (pa_cons (pe_tup hc) pa_nil hs2) hs1) (by decide) (by decide) hs1 hpl
  refine this.pwi fun σ H Q ⟨P, ρ, W, R, G, q, kQ⟩ => ⟨P, ρ, W, _, G, q, fun v H1 o ρ1 r1 h1 => ?_⟩
  obtain ⟨ws, W1, G1, st, nd, rp⟩ := r1.good G
  obtain ⟨ts, bt, h2⟩ := withR_ok G1.sr (os := [o]) (vs := [v]) (ws := ws) ⟨v, [], ws, [], rfl, rp, ⟨rfl, rfl⟩, by simp⟩ h1
  split at h2
  · exact h2.elim
  · exact h2.elim
  · rename_i t hne hne2
    have ne : notEx t := by cases t <;> first | exact True.intro | exact hne _ _ _ rfl | exact hne2 _ _ rfl
    obtain ⟨v', ws', e', rt⟩ := b1 bt
    injection e' with e' _
    subst e'
    refine ⟨by unfold tyVs; rw [List.length_map, sizeLine_eq]; omega, fun tp htp => ?_⟩
    have sm : Same H1 (upd H1 tp (.tup (tyVs cs))) := same_upd htp
    refine ⟨v, tp, tyVs cs, _, _, _, rfl, upd_same, tys_cls cs, Kept.ty sm rt ne, tys_any (tyOf t) cs, kQ _ _ (.val (.d (.bool (cs.any fun c => (tyOf t).isi c)))) _ ⟨[], W1, ?_, by simpa using G1.nd, G1.sr.after (W0 := []) (fun b o h _ => sm b o h) (by simp) (by simp) (by simp), ⟨rfl, rfl⟩⟩ h2⟩
    refine ⟨fun b o hb hn => sm b o (st.drop.keep b o hb hn), fun b hb => st.drop.new b (by simpa using hb)⟩
  · exact h2.elim
end
end PW
end PwIs
section HmD
set_option maxRecDepth 100000
/-! HmD: deeds and histories: what they are, what is promised of the functions that read them. -/
namespace PW
open PySem L2
open PyProof.Rows hiding St
/-! ### data of some depth -/
def Lay (d : Nat) (x : D) : Prop := PyData.canLay0 x = true ∧ PyData.depth x ≤ d
theorem Lay.mono {d e : Nat} {x : D} (h : Lay d x) (l : d ≤ e) : Lay e x := ⟨h.1, Nat.le_trans h.2 l⟩
theorem lay_int (i : Int) : Lay 0 (.int i) := ⟨rfl, Nat.le_refl _⟩
theorem lay_bool (i : Bool) : Lay 0 (.bool i) := ⟨rfl, Nat.le_refl _⟩
theorem lay_none : Lay 0 .none := ⟨rfl, Nat.le_refl _⟩
theorem lay_str {z : Str} (h : PyData.strOk z = true) : Lay 0 (.str z) := ⟨h, Nat.le_refl _⟩
theorem Lay.shaped {d : Nat} {x : D} (h : Lay d x) (l : d ≤ 64) : SeqAt.shaped x = true := by
  show (PyData.canLay0 x && decide (PyData.depth x ≤ 64)) = true
  rw [Bool.and_eq_true]
  exact ⟨h.1, decide_eq_true (Nat.le_trans h.2 l)⟩
theorem lay_all {d : Nat} : ∀ {xs : List D}, PyData.canLayAll0 xs = true → PyData.depthAll xs ≤ d → ∀ x ∈ xs, Lay d x
  | [], _, _, x, hx => by cases hx
  | y :: ys, h1, h2, x, hx => by
    unfold PyData.canLayAll0 at h1
    rw [Bool.and_eq_true] at h1
    simp only [PyData.depthAll] at h2
    rcases List.mem_cons.mp hx with z | z
    · subst z; exact ⟨h1.1, by omega⟩
    · exact lay_all h1.2 (by omega) x z
theorem all_lay {d : Nat} : ∀ {xs : List D}, (∀ x ∈ xs, Lay d x) → PyData.canLayAll0 xs = true ∧ PyData.depthAll xs ≤ d
  | [], _ => ⟨rfl, by simp [PyData.depthAll]⟩
  | y :: ys, h => by
    obtain ⟨a, b⟩ := all_lay (xs := ys) fun x hx => h x (by simp [hx])
    obtain ⟨c, e⟩ := h y (by simp)
    refine ⟨by unfold PyData.canLayAll0; rw [a, c]; rfl, by simp only [PyData.depthAll]; omega⟩
theorem lay_mem {d : Nat} {xs : List D} (h : Lay (d + 1) (.tuple xs)) : ∀ x ∈ xs, Lay d x := by
  obtain ⟨h1, h2⟩ := h
  simp only [PyData.canLay0] at h1
  simp only [PyData.depth] at h2
  exact lay_all h1 (by omega)
theorem lay_tup {d : Nat} {xs : List D} (h : ∀ x ∈ xs, Lay d x) : Lay (d + 1) (.tuple xs) := by
  obtain ⟨a, b⟩ := all_lay h
  exact ⟨by simp only [PyData.canLay0]; exact a, by simp only [PyData.depth]; omega⟩
theorem lay_lst {d : Nat} {xs : List D} (h : ∀ x ∈ xs, Lay d x) : Lay (d + 1) (.list xs) := by
  obtain ⟨a, b⟩ := all_lay h
  exact ⟨by simp only [PyData.canLay0]; exact a, by simp only [PyData.depth]; omega⟩
mutual
theorem no_dict : ∀ {x : D}, PyData.canLay0 x = true → PyData.hasDict x = false
  | .none, _ => rfl
  | .bool _, _ => rfl
  | .int _, _ => rfl
  | .str _, _ => rfl
  | .list xs, h => by
    simp only [PyData.canLay0] at h
    simp only [PyData.hasDict]
    exact no_dicts h
  | .tuple xs, h => by
    simp only [PyData.canLay0] at h
    simp only [PyData.hasDict]
    exact no_dicts h
  | .dict _, h => by simp [PyData.canLay0] at h
theorem no_dicts : ∀ {xs : List D}, PyData.canLayAll0 xs = true → PyData.hasDictAll xs = false
  | [], _ => rfl
  | x :: xs, h => by
    unfold PyData.canLayAll0 at h
    rw [Bool.and_eq_true] at h
    simp only [PyData.hasDictAll, no_dict h.1, no_dicts h.2, Bool.or_self]
end
/-- small data -/
def Tq : Nat → D → Prop
  | _, .none => True
  | _, .bool _ => True
  | _, .int i => i.natAbs < 10 ^ 31
  | _, .str z => PyData.strOk z = true ∧ z.length ≤ 10
  | n + 1, .tuple xs => xs.length ≤ 7 ∧ ∀ x ∈ xs, Tq n x
  | n + 1, .list xs => xs.length ≤ 7 ∧ ∀ x ∈ xs, Tq n x
  | _, _ => False
theorem Tq.mono : ∀ {n m : Nat} {x : D}, Tq n x → n ≤ m → Tq m x
  | 0, 0, x, h, _ => h
  | 0, m + 1, .none, _, _ => trivial
  | 0, m + 1, .bool _, _, _ => trivial
  | 0, m + 1, .int _, h, _ => h
  | 0, m + 1, .str _, h, _ => h
  | n + 1, m + 1, .none, _, _ => trivial
  | n + 1, m + 1, .bool _, _, _ => trivial
  | n + 1, m + 1, .int _, h, _ => h
  | n + 1, m + 1, .str _, h, _ => h
  | n + 1, m + 1, .tuple xs, h, l => ⟨h.1, fun x hx => (h.2 x hx).mono (by omega)⟩
  | n + 1, m + 1, .list xs, h, l => ⟨h.1, fun x hx => (h.2 x hx).mono (by omega)⟩
  | n + 1, m + 1, .dict _, h, _ => h.elim
  | n + 1, 0, _, _, l => by omega
  | 0, m + 1, .tuple _, h, _ => h.elim
  | 0, m + 1, .list _, h, _ => h.elim
  | 0, m + 1, .dict _, h, _ => h.elim
theorem Tq.lay : ∀ {n : Nat} {x : D}, Tq n x → Lay n x
  | n, .none, _ => lay_none.mono (by omega)
  | n, .bool _, _ => (lay_bool _).mono (by omega)
  | n, .int _, _ => (lay_int _).mono (by omega)
  | 0, .str _, h => (lay_str h.1).mono (by omega)
  | n + 1, .str _, h => (lay_str h.1).mono (by omega)
  | n + 1, .tuple xs, h => lay_tup fun x hx => (h.2 x hx).lay
  | n + 1, .list xs, h => lay_lst fun x hx => (h.2 x hx).lay
  | 0, .tuple _, h => h.elim
  | 0, .list _, h => h.elim
  | 0, .dict _, h => h.elim
  | _ + 1, .dict _, h => h.elim
def txB : Nat → Nat
  | 0 => 110
  | n + 1 => 7 * (txB n + 2) + 3
theorem txB_ge : ∀ n, 110 ≤ txB n
  | 0 => Nat.le_refl _
  | n + 1 => by have := txB_ge n; show 110 ≤ 7 * (txB n + 2) + 3; omega
theorem tx_intq {i : Int} (h : i.natAbs < 10 ^ 31) : TxtLe 110 (.int i) := by
  refine ⟨by
    simp only [PyData.showable]
    refine decide_eq_true (Nat.lt_of_le_of_lt (m := 103) ?_ (by omega))
    have h2 : i.natAbs < 2 ^ 104 := Nat.lt_trans h (by decide)
    rcases Nat.eq_zero_or_pos i.natAbs with z | z
    · rw [z]; decide
    · have := (Nat.log2_lt (by omega)).mpr h2
      omega, ?_⟩
  have := int_text_length_le10 (k := 31) (by decide) h
  show (Str.ofString (toString i)).length ≤ 110
  rw [PySem.ofString_length]
  omega
theorem Tq.txt : ∀ {n : Nat} {x : D}, Tq n x → TxtLe (txB n) x
  | n, .none, _ => tx_none.mono (by have := txB_ge n; omega)
  | n, .bool _, _ => (tx_bool _).mono (by have := txB_ge n; omega)
  | 0, .int _, h => tx_intq h
  | n + 1, .int _, h => (tx_intq h).mono (txB_ge _)
  | 0, .str _, h => (tx_str h.1).mono (by have := h.2; show _ ≤ 110; omega)
  | n + 1, .str _, h => (tx_str h.1).mono (by have := h.2; have := txB_ge (n + 1); omega)
  | n + 1, .tuple xs, h => (tx_tuple fun x hx => (h.2 x hx).txt).mono (Nat.add_le_add_right (Nat.mul_le_mul_right _ h.1) _)
  | n + 1, .list xs, h => (tx_list fun x hx => (h.2 x hx).txt).mono (Nat.add_le_add_right (Nat.mul_le_mul_right _ h.1) _)
  | 0, .tuple _, h => h.elim
  | 0, .list _, h => h.elim
  | 0, .dict _, h => h.elim
  | _ + 1, .dict _, h => h.elim
/-- a row of small data is shown -/
theorem repr_row {xs : List D} (hx : ∀ x ∈ xs, Tq 3 x) (hl : xs.length ≤ 400) : PyData.showable (.list xs) = true ∧ PyData.hasDict (.list xs) = false ∧ PyData.depth (.list xs) ≤ 60 ∧ (PyData.shown (.list xs)).length ≤ sizeLine := by
  have l := lay_lst fun x h => (hx x h).lay
  have t := tx_list fun x h => (hx x h).txt
  refine ⟨t.1, no_dict l.1, Nat.le_trans l.2 (by omega), Nat.le_trans t.2 ?_⟩
  rw [sizeLine_eq, show txB 3 = 38699 from rfl]
  omega
/-! ### deeds -/
inductive Deed where
  | beats (n : Int)
  | turn (l : Bool) (ns : List Str)
  | ring
def turnsD (l : Bool) (ns : List Str) : D := if l then .list (ns.map .str) else .tuple (ns.map .str)
def Deed.d : Deed → D
  | .beats n => .tuple [.str "beats", .int n]
  | .turn l ns => .tuple [.str "turn", turnsD l ns]
  | .ring => .tuple [.str "ring"]
def Deed.bt : Deed → Int
  | .beats n => n
  | _ => 0
def beatsOf (ds : List Deed) : Int := (ds.map Deed.bt).sum
def DeedOk (ns : List Str) : Deed → Prop
  | .beats n => 0 ≤ n ∧ n ≤ 2000
  | .turn _ ms => ms.Nodup ∧ ∀ m ∈ ms, m ∈ ns
  | .ring => True
theorem DeedOk.bt {ns : List Str} {d : Deed} (h : DeedOk ns d) : 0 ≤ d.bt := by cases d <;> first | exact h.1 | exact Int.le_refl _
theorem beatsOf_nil : beatsOf [] = 0 := rfl
theorem beatsOf_cons (d : Deed) (ds : List Deed) : beatsOf (d :: ds) = d.bt + beatsOf ds := by simp [beatsOf]
theorem beatsOf_append (ds es : List Deed) : beatsOf (ds ++ es) = beatsOf ds + beatsOf es := by simp [beatsOf]
theorem beatsOf_pos {ns : List Str} : ∀ {ds : List Deed}, (∀ d ∈ ds, DeedOk ns d) → 0 ≤ beatsOf ds
  | [], _ => Int.le_refl _
  | d :: ds, h => by
    rw [beatsOf_cons]
    have := (h d (by simp)).bt
    have := beatsOf_pos (ds := ds) fun e he => h e (List.mem_cons_of_mem _ he)
    omega
def isStr : D → Bool
  | .str _ => true
  | _ => false
def isNum : D → Bool
  | .int _ => true
  | _ => false
def strsOf : List D → Option (List Str)
  | [] => some []
  | .str z :: xs => (strsOf xs).map (z :: ·)
  | _ => none
theorem strsOf_map : ∀ zs : List Str, strsOf (zs.map .str) = some zs
  | [] => rfl
  | z :: zs => by simp only [List.map_cons, strsOf, strsOf_map zs, Option.map_some]
theorem strsOf_some : ∀ {xs : List D} {zs : List Str}, strsOf xs = some zs → xs = zs.map .str
  | [], zs, h => by cases h; rfl
  | x :: xs, zs, h => by
    cases x with
    | str z =>
      simp only [strsOf] at h
      cases e : strsOf xs with
      | none => rw [e] at h; cases h
      | some ys => rw [e] at h; cases h; rw [strsOf_some e]; rfl
    | _ => cases h
theorem strsOf_all : ∀ xs : List D, (xs.map isStr).all id = (strsOf xs).isSome
  | [] => rfl
  | x :: xs => by
    cases x with
    | str z => simp only [List.map_cons, List.all_cons, strsOf_all xs, strsOf, Option.isSome_map]; rfl
    | _ => rfl
def textsM : D → Option (Bool × List Str)
  | .tuple xs => (strsOf xs).map (false, ·)
  | .list xs => (strsOf xs).map (true, ·)
  | _ => none
theorem textsM_some {x : D} {l : Bool} {zs : List Str} (h : textsM x = some (l, zs)) : x = turnsD l zs := by
  cases x with
  | tuple xs =>
    simp only [textsM] at h
    cases e : strsOf xs with
    | none => rw [e] at h; cases h
    | some ys => rw [e] at h; cases h; rw [strsOf_some e]; rfl
  | list xs =>
    simp only [textsM] at h
    cases e : strsOf xs with
    | none => rw [e] at h; cases h
    | some ys => rw [e] at h; cases h; rw [strsOf_some e]; rfl
  | _ => cases h
theorem textsM_d (l : Bool) (zs : List Str) : textsM (turnsD l zs) = some (l, zs) := by
  cases l
  · show (strsOf (zs.map .str)).map _ = _
    rw [strsOf_map]; rfl
  · show (strsOf (zs.map .str)).map _ = _
    rw [strsOf_map]; rfl
def deed2 (w : Str) (y : D) : Option Deed := if w = "beats" then (match y with
  | .int n => some (.beats n)
  | _ => none) else if w = "turn" then (textsM y).map fun p => .turn p.1 p.2 else none
def deedM : D → Option Deed
  | .tuple [.str w] => if w = "ring" then some .ring else none
  | .tuple [.str w, y] => deed2 w y
  | _ => none
theorem deedM_some {x : D} {d : Deed} (h : deedM x = some d) : x = d.d := by
  unfold deedM at h
  split at h
  · rename_i w
    by_cases e : w = "ring"
    · rw [if_pos e] at h; cases h; rw [e]; rfl
    · rw [if_neg e] at h; cases h
  · rename_i w y
    unfold deed2 at h
    by_cases e : w = "beats"
    · rw [if_pos e] at h
      split at h
      · cases h; rw [e]; rfl
      · cases h
    · rw [if_neg e] at h
      by_cases e2 : w = "turn"
      · rw [if_pos e2] at h
        cases q : textsM y with
        | none => rw [q] at h; cases h
        | some p =>
          rw [q] at h
          cases h
          rw [e2, textsM_some (l := p.1) (zs := p.2) q]
          rfl
      · rw [if_neg e2] at h; cases h
  · cases h
theorem deedM_d (d : Deed) : deedM d.d = some d := by
  cases d with
  | beats n => rfl
  | turn l ns => show (textsM (turnsD l ns)).map _ = _; rw [textsM_d]; rfl
  | ring => rfl
theorem dd_ring {d : Deed} (h : d = .ring) : d.d = .tuple [.str "ring"] := by rw [h]; rfl
def badNames (ns zs : List Str) : Bool := zs.any fun z => decide (z ∉ ns) || decide (1 < zs.count z)
def faultD (ns : List Str) (a : Int) : Deed → Option Str
  | .beats n => if 0 ≤ n ∧ n ≤ 2000 - a then none else some "beats"
  | .turn _ zs => if badNames ns zs = true then some "name" else none
  | .ring => none
def faultM (ns : List Str) (x : D) (a : Int) : Option Str := match deedM x with
  | none => some "form"
  | some d => faultD ns a d
def goneM (x : D) : Int := match deedM x with
  | none => 0
  | some d => d.bt
def dueH (ns : List Str) : Int → Nat → List D → Option (Str × Int)
  | _, _, [] => none
  | a, k, x :: xs => match faultM ns x a with
    | some w => some (w, (k : Int))
    | none => dueH ns (a + goneM x) (k + 1) xs
def optD : Option Str → D
  | none => .none
  | some z => .str z
/-- a thing that may stand for a deed -/
structure DeedFit (x : D) : Prop where
  lay : Lay 60 x
  few : ∀ a b xs, x = .tuple [a, b] → b = .tuple xs ∨ b = .list xs → xs.length ≤ 1000
theorem Tq.fit {n : Nat} {x : D} (h : Tq n x) (hn : n ≤ 60) : DeedFit x := by
  refine ⟨h.lay.mono hn, fun a b xs e1 e2 => ?_⟩
  subst e1
  match n, h with
  | n + 1, ⟨_, h⟩ =>
    have hb := h b (by simp)
    match n, hb with
    | n + 1, hb =>
      rcases e2 with rfl | rfl
      · have := hb.1; omega
      · have := hb.1; omega
    | 0, hb => rcases e2 with rfl | rfl <;> exact hb.elim
theorem cut_to {xs : List D} {k : Nat} (h : k ≤ xs.length) : cutD xs none (some (k : Int)) = xs.take k := by
  unfold cutD
  have e : HT.sIx xs.length xs.length (some (k : Int)) = k := by rw [HT.sIx_nat]; omega
  have e0 : HT.sIx xs.length 0 none = 0 := rfl
  rw [e, e0, List.drop_zero, Nat.sub_zero]
theorem cut_from {xs : List D} {k : Nat} (h : k ≤ xs.length) : cutD xs (some (k : Int)) none = xs.drop k := by
  unfold cutD
  have e : HT.sIx xs.length 0 (some (k : Int)) = k := by rw [HT.sIx_nat]; omega
  have e0 : HT.sIx xs.length xs.length none = xs.length := rfl
  rw [e, e0]
  exact List.take_of_length_le (by rw [List.length_drop]; omega)
theorem cut_mid {xs : List D} {k j : Nat} (h : k ≤ xs.length) (h2 : j ≤ xs.length) : cutD xs (some (k : Int)) (some (j : Int)) = (xs.drop k).take (j - k) := by
  unfold cutD
  have e : HT.sIx xs.length 0 (some (k : Int)) = k := by rw [HT.sIx_nat]; omega
  have e0 : HT.sIx xs.length xs.length (some (j : Int)) = j := by rw [HT.sIx_nat]; omega
  rw [e, e0]
/-! ### promises -/
def S_is_whole : FS := fun ss R => ∃ x, ss = [.own (.d x)] ∧ ∀ fin, R (.d (.bool (isNum x))) fin
def S_law_is_number : FS := S_is_whole
def S_are_texts : FS := fun ss R => ∃ x, ss = [.own (.d x)] ∧ (∀ xs, x = .tuple xs ∨ x = .list xs → xs.length ≤ 1000) ∧ ∀ fin, R (.d (.bool (textsM x).isSome)) fin
def S_has_form : FS := fun ss R => ∃ x, ss = [.own (.d x)] ∧ DeedFit x ∧ ∀ fin, R (.d (.bool (deedM x).isSome)) fin
def S_fault_of : FS := fun ss R => ∃ h x a, ss = [.own (.d (houD h)), .own (.d x), .own (.d (.int a))] ∧ OkH h ∧ DeedFit x ∧ ∀ fin, R (.d (optD (faultM (names h) x a))) fin
def S_law_word : FS := S_fault_of
def S_law_deed : FS := fun ss R => ∃ (g : List Int) (n s t : Int) (h : List Wkr) (r : Int), ss = [.own (sackT g n s t), .own (.d (houD h)), .own (.d (.int r))] ∧ OkH h ∧ 0 ≤ r ∧ r ≤ 2000 ∧ ∀ d g' n' s' t' f1 f2, DeedOk (names h) d → d.bt ≤ 9 → d.bt ≤ r → R (.d d.d) [.own (sackT g' n' s' t'), f1, f2]
def S_law_beats_in : FS := fun ss R => ∃ (ds : List Deed), ss = [.own (.d (.list (ds.map Deed.d)))] ∧ ds.length ≤ 1000 ∧ ∀ fin, R (.d (.int (beatsOf ds))) fin
def S_law_deeds : FS := fun ss R => ∃ (g : List Int) (n s t : Int) (h : List Wkr) (m : Int), ss = [.own (sackT g n s t), .own (.d (houD h)), .own (.d (.int m))] ∧ OkH h ∧ 0 ≤ m ∧ m ≤ 60 ∧ ∀ (ds : List Deed) g' n' s' t' f1 f2, (∀ d ∈ ds, DeedOk (names h) d) → ds.length ≤ 60 → beatsOf ds ≤ 1000 → R (.ls (ds.map Deed.d)) [.own (sackT g' n' s' t'), f1, f2]
def S_law_count : FS := fun ss R => ∃ (g : List Int) (n s t m : Int), ss = [.own (sackT g n s t), .own (.d (.int m))] ∧ 0 < m ∧ m ≤ 60 ∧ ∀ c g' n' s' t' f, 0 ≤ c → c ≤ 60 → R (.d (.int c)) [.own (sackT g' n' s' t'), f]
end PW
end HmD
section HmDT
set_option maxRecDepth 100000
/-! printed by gen.py: transformers that laws share, from k18 -/
namespace PW
open PySem L2
open PyProof.Rows hiding St

def tf_law_deed_1 : SF := bCons (sRet (fOp oTup (fCons (fCst (.str "turn")) (fCons (fIfE (fTest (fOp oEqS (fCons (fCall S_law_take [.l, .v] [] (fCons (fBor 0) (fCons (fCst (.int 3)) (fNil)))) (fCons (fCst (.int 0)) fNil)))) (fFrz 4) (fOp oTupOf (fCons (fBor 4) (fNil)))) (fNil))))) (bNil)

def tf_law_deed_2 : SF := bCons (sAsg (fOp oS01 (fCons (fCall S_law_mixed [.l, .v] [] (fCons (fBor 0) (fCons (fCall S_law_called [.v] [] (fCons (fVar 1) (fNil))) (fNil)))) (fCons (fCall S_law_take [.l, .v] [] (fCons (fBor 0) (fCons (fOp oAdd (fCons (fOp oLen (fCons (fVar 1) (fNil))) (fCons (fCst (.int 1)) fNil))) (fNil)))) fNil))) (gNm 4)) (tf_law_deed_1)

def tf_law_deed_3 : SF := bCons (sIf (fTest (fOp oEqS (fCons (fVar 3) (fCons (fCst (.int 4)) fNil)))) (bCons (sRet (fOp oTup (fCons (fCst (.str "ring")) (fNil)))) (bNil)) (bNil)) (tf_law_deed_2)

def tf_law_deed_4 : SF := bCons (sIf (fTest (fOp oLt (fCons (fVar 3) (fCons (fCst (.int 2)) fNil)))) (bCons (sRet (fOp oTup (fCons (fCst (.str "beats")) (fCons (fCall S_law_take [.l, .v] [] (fCons (fBor 0) (fCons (fOp oAdd (fCons (fCst (.int 1)) (fCons (fOp oMin2 (fCons (fVar 2) (fCons (fOp oIx (fCons (fOp oLst (fCons (fCst (.int 2)) (fCons (fCst (.int 9)) (fNil)))) (fCons (fCall S_law_take [.l, .v] [] (fCons (fBor 0) (fCons (fCst (.int 2)) (fNil)))) fNil))) (fNil)))) fNil))) (fNil)))) (fNil))))) (bNil)) (bNil)) (tf_law_deed_3)

/-- ['_law_sack_here', '_law_home_here', '_law_room', '_law_form', '_law_some'] mut [0] -/
def tf_law_deed : SF := bCons (sAsg (fCall S_law_take [.l, .v] [] (fCons (fBor 0) (fCons (fCst (.int 5)) (fNil)))) (gNm 3)) (tf_law_deed_4)

/-- ['_law_deeds_here', '_law_deed_here'] mut [] -/
def tf_law_beats_in : SF := bCons (sRet (fOp oSum (fCons (fLc [1] (iLst (fVar 0)) (gNm 1) (fTest (fOp oEqS (fCons (fOp oIx (fCons (fVar 1) (fCons (fCst (.int 0)) fNil))) (fCons (fCst (.str "beats")) fNil)))) (fOp oIx (fCons (fVar 1) (fCons (fCst (.int 1)) fNil)))) (fNil)))) (bNil)

def tf_law_deeds_1 : SF := bCons (sDrop (fMut 3 mApp (fCons (fCall S_law_deed [.l, .v, .v] [] (fCons (fBor 0) (fCons (fVar 1) (fCons (fOp oSub (fCons (fCst (.int 2000)) (fCons (fCallB 3 1 S_law_beats_in (fCons (fBor 3) (fNil))) fNil))) (fNil))))) (fNil)))) (bKill [4] (bNil))

def tf_law_deeds_2 : SF := bCons (sAsg (fOp oCatL (fCons (fOp oCatL (fCons (fOp oS01 (fCons (fBor 3) (fCons (fVar 5) fNil))) (fCons (fOp oLst (fCons (fOp oTup (fCons (fCst (.str "beats")) (fCons (fCall S_law_take [.l, .v] [] (fCons (fBor 0) (fCons (fCst (.int 400)) (fNil)))) (fNil)))) (fNil))) fNil))) (fCons (fOp oS10 (fCons (fBor 3) (fCons (fVar 5) fNil))) fNil))) (gNm 3)) (bNil)

def tf_law_deeds_3 : SF := bCons (sIf (fAnd (fTest (fOp oEqS (fCons (fCall S_law_take [.l, .v] [] (fCons (fBor 0) (fCons (fCst (.int 9)) (fNil)))) (fCons (fCst (.int 0)) fNil)))) (fTest (fOp oLt (fCons (fVar 2) (fCons (fCst (.int 60)) fNil))))) (bCons (sAsg (fCall S_law_take [.l, .v] [] (fCons (fBor 0) (fCons (fOp oAdd (fCons (fOp oLen (fCons (fBor 3) (fNil))) (fCons (fCst (.int 1)) fNil))) (fNil)))) (gNm 5)) (tf_law_deeds_2)) (bNil)) (bCons (sRet (fMv 3)) (bNil))

def tf_law_deeds_4 : SF := bKill [4] (bCons (sFor (iRg1 (fCons (fVar 2) (fNil))) (gNm 4) (tf_law_deeds_1)) (tf_law_deeds_3))

/-- ['_law_sack_here', '_law_home_here', '_law_many', '_law_found', '_law_turn', '_law_at'] mut [0] -/
def tf_law_deeds : SF := bCons (sAsg (fOp oLst (fNil)) (gNm 3)) (tf_law_deeds_4)

/-- ['_law_sack_here', '_law_many'] mut [0] -/
def tf_law_count : SF := bCons (sRet (fOp oIx (fCons (fOp oLst (fCons (fOp oAdd (fCons (fCst (.int 57)) (fCons (fCall S_law_take [.l, .v] [] (fCons (fBor 0) (fCons (fCst (.int 4)) (fNil)))) fNil))) (fCons (fCall S_law_take [.l, .v] [] (fCons (fBor 0) (fCons (fVar 1) (fNil)))) (fNil)))) (fCons (fOp oInt (fCons (fOp oGt (fCons (fCall S_law_take [.l, .v] [] (fCons (fBor 0) (fCons (fCst (.int 8)) (fNil)))) (fCons (fCst (.int 0)) fNil))) (fNil))) fNil)))) (bNil)

/-- ['thing'] mut [] -/
def tf_is_whole : SF := bCons (sRet (fAndV (fIsi .int (fVar 0)) (fNotV (fIsi .bl (fVar 0))))) (bNil)

/-- ['thing', 'one'] mut [] -/
def tf_are_texts : SF := bCons (sRet (fAndV (fIsi2 .tup .lst (fVar 0)) (fOp oAll (fCons (fLc [1] (iAny (fVar 0)) (gNm 1) (tYesF) (fIsi .str (fVar 1))) (fNil))))) (bNil)

def tf_has_form_1 : SF := bCons (sRet (fOrV (fAndV (fOp oEqD (fCons (fOp oIx (fCons (fVar 0) (fCons (fCst (.int 0)) fNil))) (fCons (fCst (.str "beats")) fNil))) (fCall S_is_whole [.v] [] (fCons (fOp oIx (fCons (fVar 0) (fCons (fCst (.int 1)) fNil))) (fNil)))) (fAndV (fOp oEqD (fCons (fOp oIx (fCons (fVar 0) (fCons (fCst (.int 0)) fNil))) (fCons (fCst (.str "turn")) fNil))) (fCall S_are_texts [.v] [] (fCons (fOp oIx (fCons (fVar 0) (fCons (fCst (.int 1)) fNil))) (fNil)))))) (bNil)

def tf_has_form_2 : SF := bCons (sIf (fTest (fOp oEqS (fCons (fOp oLen (fCons (fVar 0) (fNil))) (fCons (fCst (.int 1)) fNil)))) (bCons (sRet (fOp oEqD (fCons (fOp oIx (fCons (fVar 0) (fCons (fCst (.int 0)) fNil))) (fCons (fCst (.str "ring")) fNil)))) (bNil)) (bNil)) (tf_has_form_1)

/-- ['deed'] mut [] -/
def tf_has_form : SF := bCons (sIf (fOr (fNot (fTest (fIsi .tup (fVar 0)))) (fTest (fOp oNotInD (fCons (fOp oLen (fCons (fVar 0) (fNil))) (fCons (fOp oTup (fCons (fCst (.int 1)) (fCons (fCst (.int 2)) (fNil)))) fNil))))) (bCons (sRet (fCst (.bool false))) (bNil)) (bNil)) (tf_has_form_2)

def tf_fault_of_1 : SF := bCons (sIf (fTest (fOp oAny (fCons (fLc [4] (iLst (fFrz 3)) (gNm 4) (tYesF) (fOrV (fOp oNotInD (fCons (fVar 4) (fCons (fCall S_names_of [.v] [] (fCons (fVar 0) (fNil))) fNil))) (fOp oGt (fCons (fLs oCountS (fVar 3) (fCons (fVar 4) (fNil))) (fCons (fCst (.int 1)) fNil))))) (fNil)))) (bCons (sRet (fCst (.str "name"))) (bNil)) (bNil)) (bNil)

def tf_fault_of_2 : SF := bCons (sIf (fTest (fOp oEqS (fCons (fOp oIx (fCons (fVar 1) (fCons (fCst (.int 0)) fNil))) (fCons (fCst (.str "turn")) fNil)))) (bCons (sAsg (fOp oLstOf (fCons (fOp oIx (fCons (fVar 1) (fCons (fCst (.int 1)) fNil))) (fNil))) (gNm 3)) (tf_fault_of_1)) (bNil)) (bCons (sRet (fCst .none)) (bNil))

def tf_fault_of_3 : SF := bCons (sIf (fAnd (fTest (fOp oEqS (fCons (fOp oIx (fCons (fVar 1) (fCons (fCst (.int 0)) fNil))) (fCons (fCst (.str "beats")) fNil)))) (fNot (fCh (fun i j => decide (i ≤ j)) (fun i j => decide (i ≤ j)) (fCst (.int 0)) (fOp oIx (fCons (fVar 1) (fCons (fCst (.int 1)) fNil))) (fOp oSub (fCons (fCst (.int 2000)) (fCons (fVar 2) fNil)))))) (bCons (sRet (fCst (.str "beats"))) (bNil)) (bNil)) (tf_fault_of_2)

/-- ['house', 'deed', 'ahead', 'names', 'name'] mut [] -/
def tf_fault_of : SF := bCons (sIf (fNot (fTest (fCall S_has_form [.v] [] (fCons (fVar 1) (fNil))))) (bCons (sRet (fCst (.str "form"))) (bNil)) (bNil)) (tf_fault_of_3)

end PW
end HmDT
section HmDP
set_option maxRecDepth 100000
set_option maxHeartbeats 1000000
/-! HmDP: the functions of deeds keep their promises. -/
namespace PW
open PySem L2
open PyProof.Rows hiding St
local macro_rules | `(tactic| walk_at "pw") => `(tactic| simp only [scal, fNotV, sRaise, sTry, fIsX, fXf, fIsiN, iAny, oRepr, sAugI, aAdd, aSub, mIns,  mClr, fCallB, dsB, List.map_cons, iRv1, oLstRg, sTupN, sPar3, setO, sSetK, fGetK, fNeK, fPopK, fDk, valsO, fCallK, fCat, fPerm, fLenA, dsO, pmD, vals, fIsi2, iZip, iEnu, iStrF, gHd, itsOf, fStr1, fLs, mPop, mPopAt, mExt, fAsI, oS00, oS01, oS10, oS11, oRev, cutT, oDivW, oCatS, oCatT, oRepL, oIsN, oNotN, isN, oAbs, fCh, fOfT, fIfE, oEqD, oNeD, dOf, lk_great, lk_now, lk_seed, lk_turn, pt_now, pt_seed, pt_turn, rp_great, sack_len, sackT, List.length_append, bCons, bNil, bKill, killS, sAsg, sRet, sIf, sDrop, sPar, sFor, fCall, pass, fLc, iRg1, iRg2, iLst, iTup, iEnumL, seqOf, tYesF, ownsOf, putBack, keepD, gTp, gC, gN, fOp, fCons, fNil, fVar, fBor, fCst, fMv, fFrz, fFz, withR, gNm, fTest, fNot, fOr, fAnd, fAndV, fOrV, fIsi, tyOf, Ty.isi, oAdd, oSub, oMul, oDiv, oMod, oPow, oNeg, oCmp, oEqS, oNeS, oTup, oLst, datas, oLen, oIx, oInt, oMax2, oMin2, oCatL, sSubL, fMut, mApp, CDiv, CMul, CPow, List.replicate, List.cons_append, List.nil_append, List.getElem?_cons_zero, List.getElem?_cons_succ, List.getD_cons_zero, List.getD_cons_succ, List.set_cons_zero, List.set_cons_succ, List.length_cons, List.length_nil, List.length_map, sizeLine_eq, Nat.reduceAdd, Nat.reduceLeDiff, Nat.reduceLT, true_and, and_true, true_or, or_true, and_self, Bool.false_eq_true, if_true, if_false, decide_eq_true_eq, atI0, atI1, atI2, at_pick, ixN, Option.bind_some, Int.reduceLE, Int.reduceLT, Int.reduceNeg, Int.reduceToNat, Int.reduceAdd, Int.reducePow, Int.reduceMul, Int.reduceAbs, Nat.reducePow, Int.cast_ofNat_Int, Int.toNat_zero, Int.toNat_one, ↓reduceIte, Std.le_refl, List.map_nil, List.append_nil, List.tail_cons, List.headD_cons, List.take_succ_cons, List.take_zero, List.take_nil])
theorem p_is_whole (ss : List Slot) (R : T → List Slot → Prop) (hl : ss.length = 1) (h : S_is_whole ss R) : tf_is_whole { nx := fun ρ => R (.d .none) (finS [] 1 ρ), rt := fun t ρ => R t (finS [] 1 ρ) } (ss ++ List.replicate 0 .un) := by
  obtain ⟨x, rfl, h⟩ := h
  simp only [tf_is_whole]
  cases x <;> (walk_at "pw"; first | exact h _ | (simp; exact h _))
theorem p_are_texts (ss : List Slot) (R : T → List Slot → Prop) (hl : ss.length = 1) (h : S_are_texts ss R) : tf_are_texts { nx := fun ρ => R (.d .none) (finS [] 1 ρ), rt := fun t ρ => R t (finS [] 1 ρ) } (ss ++ List.replicate 1 .un) := by
  obtain ⟨x, rfl, hz, h⟩ := h
  simp only [tf_are_texts]
  cases x with
  | tuple xs =>
    have lx := hz xs (.inl rfl)
    walk_at "pw"
    rw [if_pos (show (true || false) = true from rfl)]
    refine lpC_map (fun y => .bool (isStr y)) (by rw [sizeLine_eq]; omega) ?_ ?_
    rotate_left
    · intro y k1 hy hk
      cases y <;> (walk_at "pw"; exact hk)
    refine ⟨_, xs.map isStr, rfl, by simp [seqOf, List.map_map, Function.comp_def], ?_⟩
    dsimp only
    rw [strsOf_all]
    have e : (textsM (.tuple xs)).isSome = (strsOf xs).isSome := by simp only [textsM, Option.isSome_map]
    rw [← e]
    exact h _
  | list xs =>
    have lx := hz xs (.inr rfl)
    walk_at "pw"
    rw [if_pos (show (false || true) = true from rfl)]
    refine lpC_map (fun y => .bool (isStr y)) (by rw [sizeLine_eq]; omega) ?_ ?_
    rotate_left
    · intro y k1 hy hk
      cases y <;> (walk_at "pw"; exact hk)
    refine ⟨_, xs.map isStr, rfl, by simp [seqOf, List.map_map, Function.comp_def], ?_⟩
    dsimp only
    rw [strsOf_all]
    have e : (textsM (.list xs)).isSome = (strsOf xs).isSome := by simp only [textsM, Option.isSome_map]
    rw [← e]
    exact h _
  | _ => walk_at "pw"; first | exact h _ | (simp; exact h _)
theorem eqv_txt_str (y z : Str) : PyData.eqv (.str y) (.str z) = decide (y = z) := by
  rw [Bool.eq_iff_iff]
  simp [PyData.eqv]
theorem eqv_txt {x : D} {z : Str} (h : PyData.eqv x (.str z) = true) : x = .str z := by
  cases x with
  | str y => rw [eqv_txt_str] at h; rw [of_decide_eq_true h]
  | _ => simp [PyData.eqv] at h
theorem shaped_txt {z : Str} (h : PyData.strOk z = true) : SeqAt.shaped (.str z) = true := (lay_str h).shaped (by omega)
theorem deedM_one (a : D) : (deedM (.tuple [a])).isSome = PyData.eqv a (.str "ring") := by
  cases a with
  | str z =>
    rw [eqv_txt_str]
    show (if z = "ring" then some Deed.ring else none).isSome = _
    by_cases e : z = "ring"
    · rw [if_pos e, e]; simp
    · rw [if_neg e]; simp [e]
  | _ => simp [deedM, PyData.eqv]
theorem deedM_two (a b : D) : (deedM (.tuple [a, b])).isSome = (PyData.eqv a (.str "beats") && isNum b || (PyData.eqv a (.str "turn") && (textsM b).isSome)) := by
  cases a with
  | str z =>
    rw [eqv_txt_str, eqv_txt_str]
    show (deed2 z b).isSome = _
    unfold deed2
    by_cases e : z = "beats"
    · rw [if_pos e, e]
      have ne : ¬ (Str.ofString "beats" = Str.ofString "turn") := by decide
      cases b <;> simp [isNum, ne]
    · rw [if_neg e]
      by_cases e2 : z = "turn"
      · rw [if_pos e2, e2]
        have ne : ¬ (Str.ofString "turn" = Str.ofString "beats") := by decide
        simp [ne]
      · rw [if_neg e2]; simp [e, e2]
  | _ => simp [deedM, PyData.eqv]
theorem deedM_more (a b c : D) (r : List D) : deedM (.tuple (a :: b :: c :: r)) = none := by cases a <;> rfl
theorem p_has_form (ss : List Slot) (R : T → List Slot → Prop) (hl : ss.length = 1) (h : S_has_form ss R) : tf_has_form { nx := fun ρ => R (.d .none) (finS [] 1 ρ), rt := fun t ρ => R t (finS [] 1 ρ) } (ss ++ List.replicate 0 .un) := by
  obtain ⟨x, rfl, fit, h⟩ := h
  simp only [tf_has_form]
  cases x with
  | tuple xs =>
    walk_at "pw"
    rw [if_neg (show ¬ ((!true) = true) by decide)]
    refine .inr ⟨_, _, [1, 2], rfl, rfl, ?_⟩
    walk_at "pw"
    refine ite2 (fun hc => ?_) fun hc => ?_
    · match xs, hc with
      | [], _ => exact h _
      | [a], hc => simp at hc
      | [a, b], hc => simp at hc
      | a :: b :: c :: r, _ => rw [deedM_more] at h; exact h _
    simp only [tf_has_form_2]
    walk_at "pw"
    match xs, hc with
    | [], hc => simp at hc
    | a :: b :: c :: r, hc => simp at hc; omega
    | [a], _ =>
      rw [atI0, if_pos (by simp)]
      dsimp only
      have la := (lay_mem (fit.lay.mono (by omega : 60 ≤ 60)) a (by simp))
      refine ⟨la.shaped (by omega), shaped_txt (by decide +kernel), ?_⟩
      rw [← deedM_one]
      exact h _
    | [a, b], _ =>
      rw [if_neg (by simp)]
      simp only [tf_has_form_1]
      walk_at "pw"
      have la := lay_mem fit.lay a (by simp)
      have hb : ∀ xs, b = .tuple xs ∨ b = .list xs → xs.length ≤ 1000 := fun xs e => fit.few a b xs rfl e
      rw [deedM_two] at h
      have rest : (PyData.eqv a (.str "beats") && isNum b) = false → (SeqAt.shaped a = true ∧ SeqAt.shaped (PyData.str "turn") = true ∧ if a.eqv (.str "turn") = true then S_are_texts [.own (.d b)] fun t fin => R t (finS [] 1 [.own (.d (.tuple [a, b]))]) else R (.d (.bool false)) (finS [] 1 [.own (.d (.tuple [a, b]))])) := fun z => by
        rw [z, Bool.false_or] at h
        refine ⟨la.shaped (by omega), shaped_txt (by decide +kernel), ite2 (fun e => ⟨b, rfl, hb, fun fin => ?_⟩) fun e => ?_⟩
        · rw [e, Bool.true_and] at h; exact h _
        · rw [show PyData.eqv a (.str "turn") = false by simpa using e, Bool.false_and] at h; exact h _
      refine ⟨la.shaped (by omega), shaped_txt (by decide +kernel), ite2 (fun e => ⟨b, rfl, fun fin => ?_⟩) fun e => rest (by rw [show PyData.eqv a (.str "beats") = false by simpa using e]; rfl)⟩
      dsimp only
      refine ite2 (fun e2 => ?_) fun e2 => rest (by rw [show isNum b = false by simpa using e2, Bool.and_false])
      rw [e, e2] at h; exact h _
  | _ => walk_at "pw"; first | exact h _ | (simp; exact h _)
theorem bad_fold (ns zs : List Str) : (zs.map fun z => decide (z ∉ ns) || decide (1 < zs.count z)).any id = badNames ns zs := by
  unfold badNames
  rw [List.any_map]
  rfl
theorem faultD_beats (ns : List Str) (a n : Int) : faultD ns a (.beats n) = if 0 ≤ n ∧ n ≤ 2000 - a then none else some ("beats" : Str) := rfl
theorem faultD_turn (ns : List Str) (a : Int) (l : Bool) (zs : List Str) : faultD ns a (.turn l zs) = if badNames ns zs = true then some ("name" : Str) else none := rfl
theorem p_fault_of (ss : List Slot) (R : T → List Slot → Prop) (hl : ss.length = 3) (h : S_fault_of ss R) : tf_fault_of { nx := fun ρ => R (.d .none) (finS [] 3 ρ), rt := fun t ρ => R t (finS [] 3 ρ) } (ss ++ List.replicate 2 .un) := by
  obtain ⟨hs, x, a, rfl, ok, fit, h⟩ := h
  simp only [tf_fault_of, houD]
  walk_at "pw"
  refine ⟨x, rfl, fit, fun fin => ?_⟩
  dsimp only
  unfold faultM at h
  cases e : deedM x with
  | none =>
    rw [e] at h
    rw [if_pos (by rfl)]
    exact h _
  | some d =>
    rw [e] at h
    rw [if_neg (by simp)]
    have := deedM_some e
    subst this
    simp only [tf_fault_of_3]
    have h : ∀ fin, R (.d (optD (faultD (names hs) a d))) fin := h
    cases d with
    | beats n =>
      simp only [Deed.d]
      walk_at "pw"
      refine ite2 (fun h0 => ite2 (fun h1 => ?_) fun h1 => ?_) fun h0 => ?_
      · have h1 : ¬ n ≤ 2000 - a := by simpa using h1
        rw [faultD_beats, if_neg (by omega)] at h
        exact h _
      · have h1 : n ≤ 2000 - a := by simpa using h1
        rw [faultD_beats, if_pos ⟨h0, h1⟩] at h
        simp only [tf_fault_of_2]
        walk_at "pw"
        rw [if_neg (by decide)]
        exact h _
      · rw [faultD_beats, if_neg (by omega)] at h
        rw [if_pos (by decide)]
        exact h _
    | ring =>
      simp only [Deed.d]
      walk_at "pw"
      rw [if_neg (by decide)]
      simp only [tf_fault_of_2]
      walk_at "pw"
      rw [if_neg (by decide)]
      exact h _
    | turn l zs =>
      simp only [Deed.d]
      walk_at "pw"
      rw [if_neg (by decide)]
      simp only [tf_fault_of_2]
      walk_at "pw"
      have lz : zs.length ≤ 1000 := by
        have := fit.few (.str "turn") (turnsD l zs) (zs.map .str) rfl (by cases l <;> first | exact .inl rfl | exact .inr rfl)
        simpa using this
      refine ⟨_, zs.map .str, rfl, by cases l <;> rfl, ?_⟩
      simp only [tf_fault_of_1]
      walk_at "pw"
      refine lpC_map (fun y => match y with
        | .str z => .bool (decide (z ∉ names hs) || decide (1 < zs.count z))
        | _ => .none) (by rw [sizeLine_eq, List.length_map]; omega) ?_ ?_
      · refine ⟨_, zs.map fun z => decide (z ∉ names hs) || decide (1 < zs.count z), rfl, by simp only [seqOf, List.map_map]; rfl, ?_⟩
        dsimp only
        rw [bad_fold]
        rw [faultD_turn] at h
        refine ite2 (fun hb => ?_) fun hb => ?_
        · rw [if_pos hb] at h; exact h _
        · rw [if_neg hb] at h; exact h _
      · intro y k1 hy hk
        obtain ⟨z, hz, rfl⟩ := List.mem_map.mp hy
        walk_at "pw"
        have few := ok.few
        refine ⟨hs, rfl, by omega, fun fin => ?_⟩
        refine .inl ⟨z, _, names hs, rfl, rfl, ?_⟩
        dsimp only
        rw [if_pos rfl]
        dsimp only at hk
        refine ite2 (fun e => ?_) fun e => ?_
        · have e : (!decide (z ∈ names hs)) = true := e
          have : decide (z ∉ names hs) = true := by simpa using e
          rw [this, Bool.true_or] at hk
          exact hk
        · have : decide (z ∉ names hs) = false := by simpa using e
          rw [this, Bool.false_or] at hk
          refine ⟨⟨_, _, rfl, rfl⟩, _, zs, z, rfl, rfl, ?_⟩
          walk_at "pw"
          have e2 : decide ((1 : Int) < ((zs.count z : Nat) : Int)) = decide (1 < zs.count z) := decide_eq_decide.mpr (by omega)
          rw [e2]
          exact hk
theorem dueH_step {ns : List Str} {a : Int} {xs : List D} {i : Nat} {x : D} (hx : xs[i]? = some x) : dueH ns a i (xs.drop i) = match faultM ns x a with
    | some w => some (w, (i : Int))
    | none => dueH ns (a + goneM x) (i + 1) (xs.drop (i + 1)) := by
  have hil := (List.getElem?_eq_some_iff.mp hx).1
  have dx : xs.drop i = x :: xs.drop (i + 1) := by
    rw [List.drop_eq_getElem_cons hil]
    congr 1
    have := List.getElem?_eq_getElem hil
    rw [this] at hx
    exact Option.some.inj hx
  rw [dx]
  rfl
theorem fault_none {ns : List Str} {x : D} {a : Int} (h : faultM ns x a = none) : ∃ d : Deed, x = d.d ∧ goneM x = d.bt := by
  unfold faultM at h
  cases e : deedM x with
  | none => rw [e] at h; cases h
  | some d =>
    have := deedM_some e
    subst this
    exact ⟨d, rfl, by unfold goneM; rw [e]⟩
def Deed.btO : Deed → Option Int
  | .beats n => some n
  | _ => none
theorem bt_sum : ∀ ds : List Deed, (ds.filterMap Deed.btO).sum = beatsOf ds
  | [] => rfl
  | d :: ds => by
    rw [beatsOf_cons, ← bt_sum ds, List.filterMap_cons]
    cases d <;> simp [Deed.btO, Deed.bt]
theorem bt_fold (ds : List Deed) : (ds.map Deed.d).filterMap (fun y => (deedM y).bind fun d => d.btO.map PyData.int) = (ds.filterMap Deed.btO).map .int := by
  rw [List.filterMap_map, List.map_filterMap]
  congr 1
  funext d
  show (deedM d.d).bind _ = _
  rw [deedM_d]
  rfl
theorem p_law_beats_in (ss : List Slot) (R : T → List Slot → Prop) (hl : ss.length = 1) (h : S_law_beats_in ss R) : tf_law_beats_in { nx := fun ρ => R (.d .none) (finS [] 1 ρ), rt := fun t ρ => R t (finS [] 1 ρ) } (ss ++ List.replicate 1 .un) := by
  obtain ⟨ds, rfl, lx, h⟩ := h
  simp only [tf_law_beats_in]
  walk_at "pw"
  refine lpC_fm (fun y => (deedM y).bind fun d => d.btO.map PyData.int) (by rw [sizeLine_eq, List.length_map]; omega) ?_ ?_
  · rw [bt_fold]
    refine ⟨_, ds.filterMap Deed.btO, rfl, rfl, ?_⟩
    rw [bt_sum]
    exact h _
  · intro y k1 k2 hy h1 h2
    obtain ⟨d, hd, rfl⟩ := List.mem_map.mp hy
    rw [deedM_d] at h1 h2
    cases d with
    | beats n =>
      simp only [Deed.d]
      walk_at "pw"
      exact h1 _ rfl
    | ring =>
      simp only [Deed.d]
      walk_at "pw"
      rw [if_neg (by decide)]
      exact h2 rfl
    | turn l zs =>
      simp only [Deed.d]
      walk_at "pw"
      rw [if_neg (by decide)]
      exact h2 rfl
theorem p_law_count (ss : List Slot) (R : T → List Slot → Prop) (hl : ss.length = 2) (h : S_law_count ss R) : tf_law_count { nx := fun ρ => R (.d .none) (finS [0] 2 ρ), rt := fun t ρ => R t (finS [0] 2 ρ) } (ss ++ List.replicate 0 .un) := by
  obtain ⟨g, n, s, t, m, rfl, m0, m1, h⟩ := h
  simp only [tf_law_count]
  walk_at "pw"
  refine ⟨g, n, s, t, 4, rfl, by omega, by omega, fun a g n s t f a0 a1 => ?_⟩
  walk_at "pw"
  refine ⟨g, n, s, t, m, rfl, by omega, by omega, fun b g n s t f b0 b1 => ?_⟩
  walk_at "pw"
  refine ⟨g, n, s, t, 8, rfl, by omega, by omega, fun c g n s t f c0 c1 => ?_⟩
  walk_at "pw"
  by_cases hc : 0 < c
  · rw [if_pos hc]; exact h _ _ _ _ _ _ b0 (by omega)
  · rw [if_neg hc]; exact h _ _ _ _ _ _ (by omega) (by omega)
theorem p_law_deed (ss : List Slot) (R : T → List Slot → Prop) (hl : ss.length = 3) (h : S_law_deed ss R) : tf_law_deed { nx := fun ρ => R (.d .none) (finS [0] 3 ρ), rt := fun t ρ => R t (finS [0] 3 ρ) } (ss ++ List.replicate 2 .un) := by
  obtain ⟨g, n, s, t, hs, r, rfl, ok, r0, r1, h⟩ := h
  simp only [tf_law_deed, houD]
  walk_at "pw"
  refine ⟨g, n, s, t, 5, rfl, by omega, by omega, fun q g n s t f q0 q1 => ?_⟩
  simp only [tf_law_deed_4]
  walk_at "pw"
  refine ite2 (fun hq => ?_) fun hq => ?_
  · refine ⟨g, n, s, t, 2, rfl, by omega, by omega, fun b g n s t f b0 b1 => ?_⟩
    walk_at "pw"
    obtain ⟨c, hc, c0, c1⟩ : ∃ c : Int, atI [PyData.int 2, .int 9] b = some (.int c) ∧ 0 ≤ c ∧ c ≤ 9 := by
      rcases (by omega : b = 0 ∨ b = 1) with rfl | rfl
      · exact ⟨2, rfl, by omega, by omega⟩
      · exact ⟨9, rfl, by omega, by omega⟩
    rw [hc]
    walk_at "pw"
    have hm : 0 ≤ (if c < r then c else r) ∧ (if c < r then c else r) ≤ 9 ∧ (if c < r then c else r) ≤ r := by split <;> omega
    refine ⟨g, n, s, t, _, rfl, by omega, by omega, fun e g n s t f e0 e1 => ?_⟩
    walk_at "pw"
    exact h (.beats e) _ _ _ _ _ _ ⟨e0, by omega⟩ (show e ≤ 9 by omega) (show e ≤ r by omega)
  simp only [tf_law_deed_3]
  walk_at "pw"
  refine ite2 (fun hq => ?_) fun hq => ?_
  · exact h .ring _ _ _ _ _ _ trivial (by simp [Deed.bt]) r0
  simp only [tf_law_deed_2]
  walk_at "pw"
  have few := ok.few
  refine ⟨hs, rfl, by omega, fun fin => ?_⟩
  have nl : (names hs).length = hs.length := by unfold names; rw [List.length_map]
  refine ⟨g, n, s, t, _, _, rfl, rfl, by rw [List.length_map, nl]; omega, fun ys g n s t f hp => ?_⟩
  obtain ⟨ms, rfl⟩ := perm_strs hp
  have hp := perm_of_map_str hp
  walk_at "pw"
  refine ⟨g, n, s, t, _, rfl, by omega, by omega, fun j g n s t f j0 j1 => ?_⟩
  walk_at "pw"
  have hml : ms.length = hs.length := by rw [hp.length_eq, nl]
  obtain ⟨k, rfl⟩ : ∃ k : Nat, j = (k : Int) := ⟨j.toNat, by omega⟩
  have hsub : ∃ ns : List Str, cutD (ms.map .str) none (some (k : Int)) = ns.map .str ∧ ns.Sublist ms := by
    refine ⟨(ms.drop (HT.sIx ms.length 0 none)).take (HT.sIx ms.length ms.length (some (k : Int)) - HT.sIx ms.length 0 none), ?_, (List.take_sublist _ _).trans (List.drop_sublist _ _)⟩
    unfold cutD
    rw [List.length_map, List.map_take, List.map_drop]
  obtain ⟨ns, e, hsb⟩ := hsub
  rw [e]
  have okT : ∀ l, DeedOk (names hs) (.turn l ns) := fun l => ⟨hsb.nodup (hp.nodup_iff.mpr ok.nd), fun m hm => hp.subset (hsb.subset hm)⟩
  simp only [tf_law_deed_1]
  walk_at "pw"
  refine ⟨g, n, s, t, 3, rfl, by omega, by omega, fun b g n s t f b0 b1 => ?_⟩
  walk_at "pw"
  have few2 : ns.length ≤ 5 := by have := hsb.length_le; omega
  refine ite2 (fun hb => ?_) fun hb => ?_
  · exact h (.turn true ns) _ _ _ _ _ _ (okT _) (by simp [Deed.bt]) r0
  · refine ⟨_, _, rfl, rfl, by rw [sizeLine_eq, List.length_map]; omega, ?_⟩
    walk_at "pw"
    exact h (.turn false ns) _ _ _ _ _ _ (okT _) (by simp [Deed.bt]) r0
theorem p_law_deeds (ss : List Slot) (R : T → List Slot → Prop) (hl : ss.length = 3) (h : S_law_deeds ss R) : tf_law_deeds { nx := fun ρ => R (.d .none) (finS [0] 3 ρ), rt := fun t ρ => R t (finS [0] 3 ρ) } (ss ++ List.replicate 3 .un) := by
  obtain ⟨g, n, s, t, hs, m, rfl, ok, m0, m1, h⟩ := h
  simp only [tf_law_deeds, houD]
  walk_at "pw"
  simp only [tf_law_deeds_4]
  walk_at "pw"
  refine ⟨by omega, ?_⟩
  refine lp_at (fun i ρ => ∃ (ds : List Deed) (g : List Int) (n s t : Int), (∀ d ∈ ds, DeedOk (names hs) d) ∧ ds.length = i ∧ beatsOf ds ≤ 9 * (i : Int) ∧ ρ = [.own (sackT g n s t), .own (.d (.tuple (hs.map Wkr.d))), .own (.d (.int m)), .own (.ls (ds.map Deed.d)), .un, .un]) ⟨[], g, n, s, t, by simp, rfl, by simp [beatsOf], rfl⟩ ?_ ?_
  · rintro ρ ⟨ds, g, n, s, t, hd, hdl, hb, rfl⟩
    rw [upto_length] at hdl hb
    have b0 := beatsOf_pos hd
    simp only [tf_law_deeds_3]
    walk_at "pw"
    refine ⟨g, n, s, t, 9, rfl, by omega, by omega, fun q g n s t f q0 q1 => ?_⟩
    walk_at "pw"
    have fin : ∀ (ds : List Deed) (g : List Int) (n s t : Int) (f1 f2 f3 f4 : Slot), (∀ d ∈ ds, DeedOk (names hs) d) → ds.length ≤ 60 → beatsOf ds ≤ 1000 → R (.ls (ds.map Deed.d)) (finS [0] 3 [.own (.dk (sackK g n s t)), f1, f2, f3, .un, f4]) := fun ds g n s t f1 f2 f3 f4 h1 h2 h3 => h ds _ _ _ _ _ _ h1 h2 h3
    refine ite2 (fun hq => ite2 (fun hm => ?_) fun hm => ?_) fun hq => ?_
    · refine ⟨g, n, s, t, _, rfl, by omega, by omega, fun k g n s t f k0 k1 => ?_⟩
      simp only [tf_law_deeds_2]
      walk_at "pw"
      refine ⟨g, n, s, t, 400, rfl, by omega, by omega, fun c g n s t f c0 c1 => ?_⟩
      walk_at "pw"
      obtain ⟨k, rfl⟩ : ∃ j : Nat, k = (j : Int) := ⟨k.toNat, by omega⟩
      have hk : k ≤ ds.length := by omega
      rw [cut_to (by rw [List.length_map]; exact hk), cut_from (by rw [List.length_map]; exact hk)]
      have e : (ds.map Deed.d).take k ++ [PyData.tuple [.str "beats", .int c]] ++ (ds.map Deed.d).drop k = (ds.take k ++ [Deed.beats c] ++ ds.drop k).map Deed.d := by
        rw [List.map_append, List.map_append, List.map_take, List.map_drop]; rfl
      rw [e]
      have hb2 : beatsOf (ds.take k ++ [Deed.beats c] ++ ds.drop k) = beatsOf ds + c := by
        rw [beatsOf_append, beatsOf_append]
        have := beatsOf_append (ds.take k) (ds.drop k)
        rw [List.take_append_drop] at this
        rw [this]
        show _ + (c + 0) + _ = _
        omega
      refine ⟨by rw [List.length_take, List.length_map]; omega, by rw [List.length_take, List.length_drop, List.length_map]; omega, fin _ g n s t _ _ _ _ (fun d hd' => ?_) (by simp; omega) (by rw [hb2]; omega)⟩
      rcases List.mem_append.mp hd' with q | q
      · rcases List.mem_append.mp q with q | q
        · exact hd d (List.take_subset _ _ q)
        · have : d = .beats c := by simpa using q
          rw [this]
          exact ⟨c0, by omega⟩
      · exact hd d (List.drop_subset _ _ q)
    · exact fin ds g n s t _ _ _ _ hd (by omega) (by omega)
    · exact fin ds g n s t _ _ _ _ hd (by omega) (by omega)
  · rintro i x ρ k hx ⟨ds, g, n, s, t, hd, hdl, hb, rfl⟩ hk
    obtain ⟨hi, rfl⟩ := upto_at hx
    have b0 := beatsOf_pos hd
    simp only [tf_law_deeds_1]
    walk_at "pw"
    refine ⟨ds, rfl, by omega, fun fin => ?_⟩
    dsimp only
    refine ⟨rfl, ?_⟩
    refine ⟨g, n, s, t, hs, _, rfl, ok, by omega, by omega, fun d g n s t f1 f2 ok1 b9 _ => ?_⟩
    dsimp only
    refine ⟨by omega, hk _ ⟨ds ++ [d], g, n, s, t, fun e he => ?_, by rw [List.length_append, hdl]; rfl, ?_, by rw [List.map_append]; rfl⟩⟩
    · rcases List.mem_append.mp he with q | q
      · exact hd e q
      · have : e = d := by simpa using q
        rw [this]; exact ok1
    · rw [beatsOf_append, beatsOf_cons, beatsOf_nil]
      omega
end PW
end HmDP
section PwXl
set_option maxRecDepth 100000
/-! PwXl: a list lengthened by a list that nobody changes. -/
namespace PW
open PySem PySem.Spec L2
open PyProof.Rows hiding St
section
open PySem.AutoSeq1
theorem ext_lst (la ta : Addr) (xs ys : Array Value) (k1 k2 : Nat) (dd : Option Addr) (sl : Array (Option Value)) (nl : ¬(!xs.isEmpty && Builtin.List.listTooLong (xs.size + ys.size)) = true) (hx : xs.size ≤ sizeLine) (hxy : xs.size + ys.size ≤ sizeLine + 1) :
    Meets (Builtin.«list.extend» ⟨[.ref la, .ref ta], []⟩) (fun _ R s => s.heap.get? la = some { cls := .type "list", dict := none, data := .seq xs k1, slots := #[] } ∧ s.heap.get? ta = some { cls := .type "list", dict := dd, data := .seq ys k2, slots := sl } ∧
      R (.ok (.ret Value.none)) { s with heap := s.heap.update la (Obj.mapSeq fun x => x ++ ys), toks := s.toks }) := by
  refine .of_wp fun prog w A R s h => ?_
  obtain ⟨hp, g, d, tk, os⟩ := s
  obtain ⟨h1, h2, h⟩ := h
  have f1 := AutoSeq1.idx_int
  have f2 := AutoSeq1.sub_tuple_tuple
  have f3 := AutoSeq1.sub_list_list
  have f4 := AutoSeq1.sub_tuple_list
  have f5 := AutoSeq1.sub_list_tuple
  have hz' : (xs ++ ys).size ≤ sizeLine + 1 := by rw [Array.size_append]; exact hxy
  wp_walk using (wpAny_updateSeq h1 rfl (hz := hx) (_hz' := hz')), wpAny_loadPart' h1, wpAny_loadPart' h2
  exact ⟨_, rfl, h⟩
end
section
variable {X : Cx} {vs : List V} {H : Hp} {K : PySem.W.Frag}
def rExtL (K : PySem.W.Frag) : V → List V → Hp → VK → Prop := fun x vs H Q => ∃ l b xs zs, x = .ref l ∧ vs = [.ref b] ∧ H l = some (.lst xs) ∧ SqL K H b zs ∧ xs.length + zs.length ≤ sizeLine ∧ Q .non (upd H l (.lst (xs ++ zs)))
theorem mt_extL : MtR X "list.extend" (rExtL X.K) := by
  intro pins s σ H x vs v us Q I rx rv h
  obtain ⟨l, b, xs, zs, rfl, rfl, hH, hB, hz, q⟩ := h
  cases rx
  obtain ⟨u, rfl, ru⟩ := rv.one
  cases ru
  obtain ⟨z, its, n, r, hl, e⟩ := I.lstM hH
  obtain ⟨its2, r2, ⟨⟨cls, dd, data, sl⟩, n2, ho, hc, hdn, hd⟩, hlen⟩ := I.list hB
  simp only at hc hd
  subst hc hd
  have hl2 : zs.length = its2.length := r2.length
  have hsz : its.toArray.size + its2.toArray.size ≤ sizeLine := by rw [List.size_toArray, List.size_toArray]; omega
  have hlong : ¬ (!its.toArray.isEmpty && Builtin.List.listTooLong (its.toArray.size + its2.toArray.size)) = true := by
    rw [notLongL hsz, Bool.and_false]
    exact Bool.false_ne_true
  refine call_meets PySem.F.slot_list_extend ⟨_, e, rfl⟩ PySem.F.entry_list_extend (PySem.F.args_list_extend_2 _ _) (ext_lst l b its.toArray its2.toArray n n2 dd sl hlong (by rw [List.size_toArray]; omega) (by omega)) ⟨e, ho, ?_⟩
  refine ⟨.non, _, I.lset (its' := its ++ its2) hH e (by simp) (r.append r2) ?_, rfl, q⟩
  rw [List.length_append]
  omega
def mExtA : MF := fun xs ts R => match ts with
  | [.ls ys] => xs.length + ys.length ≤ sizeLine ∧ R .none (xs ++ ys)
  | [.d (.tuple ys)] => xs.length + ys.length ≤ sizeLine ∧ R .none (xs ++ ys)
  | [.d (.list ys)] => xs.length + ys.length ≤ sizeLine ∧ R .none (xs ++ ys)
  | _ => False
theorem mk_extA : MutOk K mExtA (fun x vs H Q => (rExtend x vs H Q ∨ rExtT K x vs H Q) ∨ rExtL K x vs H Q) := by
  intro xs ts a xv vs H Q R ha hr b h k
  unfold mExtA at h
  split at h
  · exact .inl (mk_ext xs _ a xv vs H Q R ha hr b h k)
  · exact .inl (mk_ext xs _ a xv vs H Q R ha hr b h k)
  · rename_i ys
    obtain ⟨v, _, e, ⟨p, us, e2, hp, hr2⟩, _⟩ := b1 b
    subst e2
    exact .inr ⟨a, p, xv, us, rfl, e, ha, hp.l, by rw [hr.length, hr2.length]; exact h.1, k _ _ .none (xs ++ ys) (xv ++ us) (fun b o hb hn => by rw [upd_ne hn]; exact hb) upd_same ((hr.append hr2).keep (kept1 ha)) rfl h.2⟩
  · exact h.elim
theorem mt_extA : MtR X "list.extend" (fun x vs H Q => (rExtend x vs H Q ∨ rExtT X.K x vs H Q) ∨ rExtL X.K x vs H Q) := MtR.or mt_ext mt_extL
end
end PW
end PwXl
section HmH
set_option maxRecDepth 100000
/-! HmH: histories done, the ways back: what they are, promises. -/
namespace PW
open PySem L2
open PyProof.Rows hiding St
def dEnd (h : List Wkr) (s : Stg) : Deed → Stg
  | .beats n => beatN h n.toNat s
  | .turn _ ns => turnd ns h s
  | .ring => rungM h s
def dSts (h : List Wkr) (s : Stg) : Deed → List Stg
  | .beats n => (walkM h s n.toNat).drop 1
  | _ => []
def hEnd (h : List Wkr) : Stg → List Deed → Stg
  | s, [] => s
  | s, d :: ds => hEnd h (dEnd h s d) ds
def hSts (h : List Wkr) : Stg → List Deed → List Stg
  | _, [] => []
  | s, d :: ds => dSts h s d ++ hSts h (dEnd h s d) ds
noncomputable def rowD (h : List Wkr) (x : Stg) : D := strsD (rowOf h x)
noncomputable def hRows (h : List Wkr) (s : Stg) (ds : List Deed) : List D := (s :: hSts h s ds).map (rowD h)
noncomputable def doneD (h : List Wkr) (s : Stg) (ds : List Deed) : D := .tuple [stD (hEnd h s ds), .list (hRows h s ds)]
def toldM : Deed → Deed
  | .turn _ ns => .turn false ns
  | d => d
def mirrW (h : List Wkr) : List Deed := [.turn false (names h), .ring]
def wayB (h : List Wkr) (ds : List Deed) : List Deed := mirrW h ++ ds.reverse.map toldM ++ mirrW h
def deedsD (ds : List Deed) : D := .tuple (ds.map Deed.d)
theorem nodup_le : ∀ {xs ys : List Str}, xs.Nodup → (∀ x ∈ xs, x ∈ ys) → xs.length ≤ ys.length
  | [], _, _, _ => Nat.zero_le _
  | x :: xs, ys, nd, h => by
    have hx := h x (by simp)
    rw [List.nodup_cons] at nd
    have := nodup_le (xs := xs) (ys := ys.erase x) nd.2 fun z hz => by
      rw [List.mem_erase_of_ne]
      · exact h z (by simp [hz])
      · rintro rfl
        exact nd.1 hz
    rw [List.length_erase_of_mem hx] at this
    have := List.length_pos_of_mem hx
    rw [List.length_cons]
    omega
/-! ### promises -/
def HOk (h : List Wkr) (s : Stg) (ds : List Deed) : Prop := OkH h ∧ OkS h s ∧ (∀ d ∈ ds, DeedOk (names h) d) ∧ beatsOf ds ≤ 100000 ∧ ds.length ≤ 3000
def S_deed_done : FS := fun ss R => ∃ h s d, ss = [.own (.d (houD h)), .own (.d (stD s)), .own (.d d.d)] ∧ OkH h ∧ OkS h s ∧ DeedOk (names h) d ∧ ∀ fin, R (.d (.tuple [stD (dEnd h s d), .list ((dSts h s d).map (rowD h))])) fin
def S_done : FS := fun ss R => ∃ h s u ds, ss = [.own (.d (houD h)), .own (.d (stD s)), .own u] ∧ itsOf u = some (ds.map Deed.d) ∧ HOk h s ds ∧ ∀ fin, R (.d (doneD h s ds)) fin
def S_deed_told : FS := fun ss R => ∃ d ns, ss = [.own (.d (Deed.d d))] ∧ DeedOk ns d ∧ ns.length ≤ 64 ∧ ∀ fin, R (.d (toldM d).d) fin
def S_way_back : FS := fun ss R => ∃ h u ds, ss = [.own (.d (houD h)), .own (.d u)] ∧ itsOf (.d u) = some (ds.map Deed.d) ∧ h.length ≤ 64 ∧ (∀ d ∈ ds, DeedOk (names h) d) ∧ ds.length ≤ 3000 ∧ ∀ fin, R (.d (deedsD (wayB h ds))) fin
def S_law_listed : FS := fun ss R => ∃ (ds : List Deed) (ns : List Str), ss = [.own (.d (.list (ds.map Deed.d)))] ∧ (∀ d ∈ ds, DeedOk ns d) ∧ ns.length ≤ 64 ∧ ds.length ≤ 3000 ∧ ∀ fin, R (.ls ((ds.map toldM).map Deed.d)) fin
def S_law_ways_home : FS := fun ss R => ∃ h ds, ss = [.own (.d (houD h)), .own (.d (.list (ds.map Deed.d)))] ∧ h.length ≤ 64 ∧ (∀ d ∈ ds, DeedOk (names h) d) ∧ ds.length ≤ 3000 ∧ ∀ fin, R (.d (deedsD (wayB h ds))) fin
def ledM (h : List Wkr) (s : Stg) : Deed → List Stg
  | .beats n => (walkM h s n.toNat).drop 1
  | .turn _ ns => [turnd ns h s]
  | .ring => [rungM h s]
def S_law_led : FS := fun ss R => ∃ h s d, ss = [.own (.d (houD h)), .own (.d (stD s)), .own (.d (Deed.d d))] ∧ OkH h ∧ OkS h s ∧ DeedOk (names h) d ∧ ∀ fin, R (.ls ((ledM h s d).map stD)) fin
def S_law_done : FS := fun ss R => ∃ h s ds, ss = [.own (.d (houD h)), .own (.d (stD s)), .own (.d (.list (ds.map Deed.d)))] ∧ HOk h s ds ∧ ∀ fin, R (.d (doneD h s ds)) fin
end PW
end HmH
section HmHT
set_option maxRecDepth 100000
/-! printed by gen.py: transformers that laws share, from k20 -/
namespace PW
open PySem L2
open PyProof.Rows hiding St

def tf_deed_done_1 : SF := bCons (sRet (fOp oTup (fCons (fCallK S_beaten 2 1 [.a 0, .a 1, .a 2] (fCons (fVar 0) (fCons (fVar 1) (fNil))) (fCons (fOp oIx (fCons (fVar 2) (fCons (fCst (.int 1)) fNil))) (fNil))) (fCons (fFz (fOp oS10 (fCons (fCall S_hearing [.v, .v, .v] [] (fCons (fVar 0) (fCons (fVar 1) (fCons (fOp oIx (fCons (fVar 2) (fCons (fCst (.int 1)) fNil))) (fNil))))) (fCons (fCst (.int 1)) fNil)))) (fNil))))) (bNil)

def tf_deed_done_2 : SF := bCons (sIf (fTest (fOp oEqS (fCons (fOp oIx (fCons (fVar 2) (fCons (fCst (.int 0)) fNil))) (fCons (fCst (.str "ring")) fNil)))) (bCons (sRet (fOp oTup (fCons (fCall S_rung [.v, .v] [] (fCons (fVar 0) (fCons (fVar 1) (fNil)))) (fCons (fFz (fOp oLst (fNil))) (fNil))))) (bNil)) (bNil)) (tf_deed_done_1)

/-- ['house', 'standing', 'deed'] mut [] -/
def tf_deed_done : SF := bCons (sIf (fTest (fOp oEqS (fCons (fOp oIx (fCons (fVar 2) (fCons (fCst (.int 0)) fNil))) (fCons (fCst (.str "turn")) fNil)))) (bCons (sRet (fOp oTup (fCons (fCall S_turned [.v, .v, .v] [] (fCons (fVar 0) (fCons (fVar 1) (fCons (fOp oIx (fCons (fVar 2) (fCons (fCst (.int 1)) fNil))) (fNil))))) (fCons (fFz (fOp oLst (fNil))) (fNil))))) (bNil)) (bNil)) (tf_deed_done_2)

def tf_done_1 : SF := bCons (sDrop (fMut 3 mExtA (fCons (fVar 5) (fNil)))) (bKill [4, 5] (bNil))

def tf_done_2 : SF := bCons (sAsg (fCall S_deed_done [.v, .v, .v] [] (fCons (fVar 0) (fCons (fVar 1) (fCons (fVar 4) (fNil))))) (gTp 2 (gC (gNm 1) (gC (gNm 5) (gN))))) (tf_done_1)

def tf_done_3 : SF := bCons (sRet (fOp oTup (fCons (fVar 1) (fCons (fFrz 3) (fNil))))) (bNil)

def tf_done_4 : SF := bKill [4, 5] (bCons (sFor (iAny (fFrz 2)) (gNm 4) (tf_done_2)) (tf_done_3))

/-- ['house', 'standing', 'history', 'rows', 'deed', 'more'] mut [] -/
def tf_done : SF := bCons (sAsg (fOp oLst (fCons (fCall S_heard [.v, .v] [] (fCons (fVar 0) (fCons (fVar 1) (fNil)))) (fNil))) (gNm 3)) (tf_done_4)

/-- ['deed'] mut [] -/
def tf_deed_told : SF := bCons (sRet (fIfE (fTest (fOp oEqS (fCons (fOp oIx (fCons (fVar 0) (fCons (fCst (.int 0)) fNil))) (fCons (fCst (.str "turn")) fNil)))) (fOp oTup (fCons (fCst (.str "turn")) (fCons (fOp oTupOf (fCons (fOp oIx (fCons (fVar 0) (fCons (fCst (.int 1)) fNil))) (fNil))) (fNil)))) (fVar 0))) (bNil)

def tf_way_back_1 : SF := bCons (sRet (fOp oCatT (fCons (fOp oCatT (fCons (fVar 2) (fCons (fOp oTupOf (fCons (fLc [3] (iRevF (fVar 1)) (gNm 3) (tYesF) (fCall S_deed_told [.v] [] (fCons (fVar 3) (fNil)))) (fNil))) fNil))) (fCons (fVar 2) fNil)))) (bNil)

/-- ['house', 'history', 'mirror', 'deed'] mut [] -/
def tf_way_back : SF := bCons (sAsg (fOp oTup (fCons (fOp oTup (fCons (fCst (.str "turn")) (fCons (fCall S_names_of [.v] [] (fCons (fVar 0) (fNil))) (fNil)))) (fCons (fOp oTup (fCons (fCst (.str "ring")) (fNil))) (fNil)))) (gNm 2)) (tf_way_back_1)

/-- ['_law_deeds_here', '_law_deed_here'] mut [] -/
def tf_law_listed : SF := bCons (sRet (fLc [1] (iLst (fVar 0)) (gNm 1) (tYesF) (fIfE (fTest (fOp oEqS (fCons (fOp oIx (fCons (fVar 1) (fCons (fCst (.int 0)) fNil))) (fCons (fCst (.str "turn")) fNil)))) (fOp oTup (fCons (fCst (.str "turn")) (fCons (fOp oTupOf (fCons (fOp oIx (fCons (fVar 1) (fCons (fCst (.int 1)) fNil))) (fNil))) (fNil)))) (fVar 1)))) (bNil)

def tf_law_ways_home_1 : SF := bCons (sRet (fOp oTupOf (fCons (fOp oCatL (fCons (fOp oCatL (fCons (fBor 2) (fCons (fOp oRev (fCons (fCall S_law_listed [.v] [] (fCons (fVar 1) (fNil))) fNil)) fNil))) (fCons (fBor 2) fNil))) (fNil)))) (bNil)

/-- ['_law_home_here', '_law_deeds_here', '_law_turn'] mut [] -/
def tf_law_ways_home : SF := bCons (sAsg (fOp oLst (fCons (fOp oTup (fCons (fCst (.str "turn")) (fCons (fOp oTupOf (fCons (fCall S_law_called [.v] [] (fCons (fVar 0) (fNil))) (fNil))) (fNil)))) (fCons (fOp oTup (fCons (fCst (.str "ring")) (fNil))) (fNil)))) (gNm 2)) (tf_law_ways_home_1)

def tf_law_led_1 : SF := bCons (sRet (fOp oLst (fCons (fCall S_law_flip [.v, .v, .v] [] (fCons (fVar 0) (fCons (fVar 1) (fCons (fOp oIx (fCons (fVar 2) (fCons (fCst (.int 1)) fNil))) (fNil))))) (fNil)))) (bNil)

def tf_law_led_2 : SF := bCons (sIf (fTest (fOp oEqS (fCons (fOp oIx (fCons (fVar 2) (fCons (fCst (.int 0)) fNil))) (fCons (fCst (.str "ring")) fNil)))) (bCons (sRet (fOp oLst (fCons (fCall S_law_rung [.v, .v] [] (fCons (fVar 0) (fCons (fVar 1) (fNil)))) (fNil)))) (bNil)) (bNil)) (tf_law_led_1)

/-- ['_law_home_here', '_law_stand_here', '_law_deed_here'] mut [] -/
def tf_law_led : SF := bCons (sIf (fTest (fOp oEqS (fCons (fOp oIx (fCons (fVar 2) (fCons (fCst (.int 0)) fNil))) (fCons (fCst (.str "beats")) fNil)))) (bCons (sRet (fOp oS10 (fCons (fCall S_law_walk [.v, .v, .v] [] (fCons (fVar 0) (fCons (fVar 1) (fCons (fOp oIx (fCons (fVar 2) (fCons (fCst (.int 1)) fNil))) (fNil))))) (fCons (fCst (.int 1)) fNil)))) (bNil)) (bNil)) (tf_law_led_2)

def tf_law_done_1 : SF := bCons (sIf (fTest (fOp oEqS (fCons (fOp oIx (fCons (fVar 4) (fCons (fCst (.int 0)) fNil))) (fCons (fCst (.str "beats")) fNil)))) (bCons (sDrop (fMut 3 mApp (fCons (fCall S_law_heard [.v, .v] [] (fCons (fVar 0) (fCons (fVar 1) (fNil)))) (fNil)))) (bNil)) (bNil)) (bKill [5] (bNil))

def tf_law_done_2 : SF := bKill [5] (bCons (sFor (iLst (fCall S_law_led [.v, .v, .v] [] (fCons (fVar 0) (fCons (fVar 1) (fCons (fVar 4) (fNil)))))) (gNm 5) (bCons (sAsg (fVar 5) (gNm 1)) (tf_law_done_1))) (bKill [4, 5] (bNil)))

def tf_law_done_3 : SF := bCons (sRet (fOp oTup (fCons (fVar 1) (fCons (fFrz 3) (fNil))))) (bNil)

def tf_law_done_4 : SF := bKill [4, 5] (bCons (sFor (iLst (fVar 2)) (gNm 4) (tf_law_done_2)) (tf_law_done_3))

/-- ['_law_home_here', '_law_stand_here', '_law_deeds_here', '_law_rows', '_law_deed_here', '_law_here_here'] mut [] -/
def tf_law_done : SF := bCons (sAsg (fOp oLst (fCons (fCall S_law_heard [.v, .v] [] (fCons (fVar 0) (fCons (fVar 1) (fNil)))) (fNil))) (gNm 3)) (tf_law_done_4)

end PW
end HmHT
section HmHP
set_option maxRecDepth 100000
set_option maxHeartbeats 1000000
/-! HmHP: the walks of histories done -/
namespace PW
open PySem L2
open PyProof.Rows hiding St
local macro_rules | `(tactic| walk_at "pw") => `(tactic| simp only [iRevF, mExtA, oNotB, oIsB, scal, fNotV, sRaise, sTry, fIsX, fXf, fIsiN, iAny, oRepr, sAugI, aAdd, aSub, mIns,  mClr, fCallB, dsB, List.map_cons, iRv1, oLstRg, sTupN, sPar3, setO, sSetK, fGetK, fNeK, fPopK, fDk, valsO, fCallK, fCat, fPerm, fLenA, dsO, pmD, vals, fIsi2, iZip, iEnu, iStrF, gHd, itsOf, fStr1, fLs, mPop, mPopAt, mExt, fAsI, oS00, oS01, oS10, oS11, oRev, cutT, oDivW, oCatS, oCatT, oRepL, oIsN, oNotN, isN, oAbs, fCh, fOfT, fIfE, oEqD, oNeD, dOf, lk_great, lk_now, lk_seed, lk_turn, pt_now, pt_seed, pt_turn, rp_great, sack_len, sackT, List.length_append, bCons, bNil, bKill, killS, sAsg, sRet, sIf, sDrop, sPar, sFor, fCall, pass, fLc, iRg1, iRg2, iLst, iTup, iEnumL, seqOf, tYesF, ownsOf, putBack, keepD, gTp, gC, gN, fOp, fCons, fNil, fVar, fBor, fCst, fMv, fFrz, fFz, withR, gNm, fTest, fNot, fOr, fAnd, fAndV, fOrV, fIsi, tyOf, Ty.isi, oAdd, oSub, oMul, oDiv, oMod, oPow, oNeg, oCmp, oEqS, oNeS, oTup, oLst, datas, oLen, oIx, oInt, oMax2, oMin2, oCatL, sSubL, fMut, mApp, CDiv, CMul, CPow, List.replicate, List.cons_append, List.nil_append, List.getElem?_cons_zero, List.getElem?_cons_succ, List.getD_cons_zero, List.getD_cons_succ, List.set_cons_zero, List.set_cons_succ, List.length_cons, List.length_nil, List.length_map, sizeLine_eq, Nat.reduceAdd, Nat.reduceLeDiff, Nat.reduceLT, true_and, and_true, true_or, or_true, and_self, Bool.false_eq_true, if_true, if_false, decide_eq_true_eq, atI0, atI1, atI2, at_pick, ixN, Option.bind_some, Int.reduceLE, Int.reduceLT, Int.reduceNeg, Int.reduceToNat, Int.reduceAdd, Int.reducePow, Int.reduceMul, Int.reduceAbs, Nat.reducePow, Int.cast_ofNat_Int, Int.toNat_zero, Int.toNat_one, ↓reduceIte, Std.le_refl, List.map_nil, List.append_nil, List.tail_cons, List.headD_cons, List.take_succ_cons, List.take_zero, List.take_nil])
theorem drop_one {xs : List D} (h : 1 ≤ xs.length) : cutD xs (some (1 : Int)) none = xs.drop 1 := cut_from (k := 1) h
theorem its_turns (l : Bool) (ns : List Str) : itsOf (.d (turnsD l ns)) = some (ns.map .str) := by cases l <;> rfl
theorem p_deed_told (ss : List Slot) (R : T → List Slot → Prop) (hl : ss.length = 1) (h : S_deed_told ss R) : tf_deed_told { nx := fun ρ => R (.d .none) (finS [] 1 ρ), rt := fun t ρ => R t (finS [] 1 ρ) } (ss ++ List.replicate 0 .un) := by
  obtain ⟨d, ns, rfl, hd, hn, h⟩ := h
  simp only [tf_deed_told]
  cases d with
  | beats n =>
    simp only [Deed.d]
    walk_at "pw"
    rw [if_neg (by decide)]
    exact h _
  | ring =>
    simp only [Deed.d]
    walk_at "pw"
    rw [if_neg (by decide)]
    exact h _
  | turn l zs =>
    simp only [Deed.d]
    walk_at "pw"
    have := nodup_le hd.1 hd.2
    refine ⟨_, _, rfl, its_turns l zs, by rw [List.length_map, sizeLine_eq]; omega, ?_⟩
    walk_at "pw"
    exact h _
theorem p_deed_done (ss : List Slot) (R : T → List Slot → Prop) (hl : ss.length = 3) (h : S_deed_done ss R) : tf_deed_done { nx := fun ρ => R (.d .none) (finS [] 3 ρ), rt := fun t ρ => R t (finS [] 3 ρ) } (ss ++ List.replicate 0 .un) := by
  obtain ⟨h0, s0, d, rfl, ok, os, hd, h⟩ := h
  have few := ok.few
  have hs := okS_length os
  simp only [tf_deed_done]
  cases d with
  | turn l zs =>
    simp only [Deed.d]
    walk_at "pw"
    refine ⟨h0, s0, turnsD l zs, zs, rfl, its_turns l zs, by omega, hs, hd.2, fun fin => ?_⟩
    walk_at "pw"
    exact h _
  | ring =>
    simp only [Deed.d]
    walk_at "pw"
    rw [if_neg (by decide)]
    simp only [tf_deed_done_2]
    walk_at "pw"
    refine ⟨h0, s0, rfl, ok, hs, fun fin => ?_⟩
    walk_at "pw"
    exact h _
  | beats n =>
    simp only [Deed.d]
    walk_at "pw"
    rw [if_neg (by decide)]
    simp only [tf_deed_done_2]
    walk_at "pw"
    rw [if_neg (by decide)]
    simp only [tf_deed_done_1]
    walk_at "pw"
    obtain ⟨n0, n1⟩ : 0 ≤ n ∧ n ≤ 2000 := hd
    refine ⟨h0, s0, n, rfl, ok, os, n0, by omega, fun fin => ?_⟩
    walk_at "pw"
    refine ⟨h0, s0, n, rfl, ok, os, n0, by omega, fun fin => ?_⟩
    walk_at "pw"
    rw [drop_one (by rw [List.length_map, walk_length]; omega), ← List.map_drop]
    exact h _
theorem okS_dEnd {h : List Wkr} {s : Stg} {ns : List Str} {d : Deed} (ok : OkH h) (o : OkS h s) : OkS h (dEnd h s d) := by
  cases d with
  | beats n => exact okS_beatN ok o _
  | turn l ns => exact okS_turnd _ o
  | ring => exact okS_rung o
theorem hEnd_append (h : List Wkr) : ∀ (ds es : List Deed) (s : Stg), hEnd h s (ds ++ es) = hEnd h (hEnd h s ds) es
  | [], _, _ => rfl
  | d :: ds, es, s => hEnd_append h ds es (dEnd h s d)
theorem hSts_append (h : List Wkr) : ∀ (ds es : List Deed) (s : Stg), hSts h s (ds ++ es) = hSts h s ds ++ hSts h (hEnd h s ds) es
  | [], _, _ => rfl
  | d :: ds, es, s => by
    show dSts h s d ++ hSts h (dEnd h s d) (ds ++ es) = dSts h s d ++ hSts h (dEnd h s d) ds ++ _
    rw [hSts_append h ds es, List.append_assoc]
    rfl
theorem okS_hEnd {h : List Wkr} (ok : OkH h) : ∀ (ds : List Deed) {s : Stg}, OkS h s → OkS h (hEnd h s ds)
  | [], _, o => o
  | d :: ds, s, o => okS_hEnd ok ds (okS_dEnd (ns := []) ok o)
theorem dSts_length {h : List Wkr} {s : Stg} {ns : List Str} : ∀ {d : Deed}, DeedOk ns d → ((dSts h s d).length : Int) = d.bt
  | .beats n, hd => by
    have := hd.1
    show (((walkM h s n.toNat).drop 1).length : Int) = n
    rw [List.length_drop, walk_length]
    omega
  | .turn _ _, _ => rfl
  | .ring, _ => rfl
theorem hSts_length {h : List Wkr} {ns : List Str} : ∀ {ds : List Deed} {s : Stg}, (∀ d ∈ ds, DeedOk ns d) → ((hSts h s ds).length : Int) = beatsOf ds
  | [], _, _ => rfl
  | d :: ds, s, hd => by
    have e1 := dSts_length (h := h) (s := s) (hd d (by simp))
    have e2 := hSts_length (h := h) (ds := ds) (s := dEnd h s d) fun e he => hd e (List.mem_cons_of_mem _ he)
    show ((dSts h s d ++ hSts h (dEnd h s d) ds).length : Int) = _
    rw [List.length_append, beatsOf_cons]
    omega
theorem beatsOf_take {ns : List Str} {ds : List Deed} (hd : ∀ d ∈ ds, DeedOk ns d) (i : Nat) : beatsOf (ds.take i) ≤ beatsOf ds := by
  have e : beatsOf ds = beatsOf (ds.take i) + beatsOf (ds.drop i) := by rw [← beatsOf_append, List.take_append_drop]
  have := beatsOf_pos (ds := ds.drop i) fun d h => hd d (List.drop_subset _ _ h)
  omega
theorem hRows_length {h : List Wkr} {s : Stg} {ns : List Str} {ds : List Deed} (hd : ∀ d ∈ ds, DeedOk ns d) : ((hRows h s ds).length : Int) = 1 + beatsOf ds := by
  have := hSts_length (h := h) (s := s) hd
  unfold hRows
  rw [List.length_map, List.length_cons]
  omega
theorem its_three {u : T} {xs : List D} (h : itsOf u = some xs) : u = .ls xs ∨ u = .d (.list xs) ∨ u = .d (.tuple xs) := by
  unfold itsOf at h
  split at h
  · cases h; exact .inl rfl
  · cases h; exact .inr (.inl rfl)
  · cases h; exact .inr (.inr rfl)
  · cases h
theorem p_done (ss : List Slot) (R : T → List Slot → Prop) (hl : ss.length = 3) (h : S_done ss R) : tf_done { nx := fun ρ => R (.d .none) (finS [] 3 ρ), rt := fun t ρ => R t (finS [] 3 ρ) } (ss ++ List.replicate 3 .un) := by
  obtain ⟨h0, s0, u, ds, rfl, hu, ⟨ok, os, hd, hb, lx⟩, h⟩ := h
  have hs := okS_length os
  simp only [tf_done]
  walk_at "pw"
  refine ⟨h0, s0, rfl, ok, hs, fun ys fin p so => ?_⟩
  walk_at "pw"
  rw [srt_eq p so]
  simp only [tf_done_4]
  walk_at "pw"
  have go : ∀ u : D, lp (gNm 4) tf_done_2 { nx := fun ρ => tf_done_3 { nx := fun ρ => R (.d .none) (finS [] 3 ρ), rt := fun t ρ => R t (finS [] 3 ρ) } ρ, rt := fun t ρ => R t (finS [] 3 ρ) } (ds.map Deed.d) [.own (.d (houD h0)), .own (.d (stD s0)), .own (.d u), .own (.ls [strsD (rowOf h0 s0)]), .un, .un] := by
    intro u
    refine lp_at (fun i ρ => ρ = [.own (.d (houD h0)), .own (.d (stD (hEnd h0 s0 (ds.take i)))), .own (.d u), .own (.ls (hRows h0 s0 (ds.take i))), .un, .un]) rfl ?_ ?_
    · rintro ρ rfl
      rw [List.length_map, List.take_length]
      simp only [tf_done_3]
      walk_at "pw"
      exact h _
    · rintro i x ρ k hx rfl hk
      obtain ⟨d, hdd, rfl⟩ := map_at hx
      have hm := hd d (List.mem_of_getElem? hdd)
      have ht : ds.take (i + 1) = ds.take i ++ [d] := by rw [List.take_add_one, hdd]; rfl
      have oi := okS_hEnd ok (ds.take i) os
      simp only [tf_done_2]
      walk_at "pw"
      refine ⟨h0, _, d, rfl, ok, oi, hm, fun fin => ?_⟩
      walk_at "pw"
      simp only [tf_done_1]
      walk_at "pw"
      have hi : ∀ d ∈ ds.take i, DeedOk (names h0) d := fun d h => hd d (List.take_subset _ _ h)
      have l1 := hRows_length (h := h0) (s := s0) hi
      have l2 := dSts_length (h := h0) (s := hEnd h0 s0 (ds.take i)) hm
      have l3 := beatsOf_take hd i
      have l4 : d.bt ≤ 2000 := by cases d <;> first | exact hm.2 | (show (0 : Int) ≤ 2000; omega)
      refine ⟨by omega, hk _ ?_⟩
      rw [ht, hEnd_append]
      unfold hRows
      rw [hSts_append, ← List.cons_append, List.map_append]
      show _ = [_, _, _, Slot.own (.ls (_ ++ List.map _ (dSts h0 (hEnd h0 s0 (ds.take i)) d ++ []))), _, _]
      rw [List.append_nil]
      rfl
  rcases its_three hu with rfl | rfl | rfl
  all_goals
    walk_at "pw"
    exact go _
theorem told_ok {ns : List Str} : ∀ {d : Deed}, DeedOk ns d → DeedOk ns (toldM d)
  | .beats _, h => h
  | .turn _ _, h => h
  | .ring, h => h
theorem its_two {u : D} {xs : List D} (h : itsOf (.d u) = some xs) : u = .list xs ∨ u = .tuple xs := by
  cases u with
  | list ys => exact .inl (by cases h; rfl)
  | tuple ys => exact .inr (by cases h; rfl)
  | _ => cases h
theorem wayB_length (h : List Wkr) (ds : List Deed) : (wayB h ds).length = ds.length + 4 := by
  unfold wayB mirrW
  simp only [List.length_append, List.length_map, List.length_reverse, List.length_cons, List.length_nil]
  omega
theorem p_way_back (ss : List Slot) (R : T → List Slot → Prop) (hl : ss.length = 2) (h : S_way_back ss R) : tf_way_back { nx := fun ρ => R (.d .none) (finS [] 2 ρ), rt := fun t ρ => R t (finS [] 2 ρ) } (ss ++ List.replicate 2 .un) := by
  obtain ⟨h0, u, ds, rfl, hu, few, hd, lx, h⟩ := h
  simp only [tf_way_back]
  walk_at "pw"
  refine ⟨h0, rfl, few, fun fin => ?_⟩
  walk_at "pw"
  simp only [tf_way_back_1]
  rcases its_two hu with rfl | rfl
  all_goals
    walk_at "pw"
    refine lpC_at (fun i acc ρ => acc = ((ds.reverse.take i).map toldM).map Deed.d ∧ ρ = [.own (.d (houD h0)), .own (.d _), .own (.d (.tuple [.tuple [.str "turn", strsD (names h0)], .tuple [.str "ring"]])), .un]) ⟨by simp, rfl⟩ (by rw [List.length_reverse, List.length_map, sizeLine_eq]; omega) ?_ ?_
    · rintro acc ρ ⟨rfl, rfl⟩
      rw [List.length_reverse, List.length_map, List.take_of_length_le (by rw [List.length_reverse]; exact Nat.le_refl _)]
      refine ⟨_, _, rfl, rfl, by rw [List.length_map, List.length_map, List.length_reverse, sizeLine_eq]; omega, ?_⟩
      walk_at "pw"
      refine ⟨by rw [List.length_reverse]; omega, by rw [List.length_reverse]; omega, ?_⟩
      have e : deedsD (wayB h0 ds) = .tuple (PyData.tuple [.str "turn", strsD (names h0)] :: .tuple [.str "ring"] :: (ds.reverse.map toldM).map Deed.d ++ [.tuple [.str "turn", strsD (names h0)], .tuple [.str "ring"]]) := by
        unfold deedsD wayB mirrW
        rw [List.map_append, List.map_append]
        rfl
      rw [e] at h
      exact h _
    · rintro j x acc ρ k1 k2 hx ⟨rfl, rfl⟩ h1 h2
      rw [← List.map_reverse] at hx
      obtain ⟨d, hdd, rfl⟩ := map_at hx
      have hm := hd d (List.mem_reverse.mp (List.mem_of_getElem? hdd))
      walk_at "pw"
      refine ⟨d, names h0, rfl, hm, by unfold names; rw [List.length_map]; exact few, fun fin => ?_⟩
      walk_at "pw"
      refine h1 _ _ ⟨?_, rfl⟩
      rw [List.take_add_one, hdd, List.map_append, List.map_append]
      rfl
theorem p_law_listed (ss : List Slot) (R : T → List Slot → Prop) (hl : ss.length = 1) (h : S_law_listed ss R) : tf_law_listed { nx := fun ρ => R (.d .none) (finS [] 1 ρ), rt := fun t ρ => R t (finS [] 1 ρ) } (ss ++ List.replicate 1 .un) := by
  obtain ⟨ds, ns, rfl, hd, few, lx, h⟩ := h
  simp only [tf_law_listed]
  walk_at "pw"
  refine lpC_at (fun i acc ρ => acc = ((ds.take i).map toldM).map Deed.d ∧ ρ = [.own (.d (.list (ds.map Deed.d))), .un]) ⟨by simp, rfl⟩ (by rw [List.length_map, sizeLine_eq]; omega) ?_ ?_
  · rintro acc ρ ⟨rfl, rfl⟩
    rw [List.length_map, List.take_length]
    walk_at "pw"
    exact h _
  · rintro j x acc ρ k1 k2 hx ⟨rfl, rfl⟩ h1 h2
    obtain ⟨d, hdd, rfl⟩ := map_at hx
    have hm := hd d (List.mem_of_getElem? hdd)
    have e : ((ds.take j).map toldM).map Deed.d ++ [(toldM d).d] = ((ds.take (j + 1)).map toldM).map Deed.d := by
      rw [List.take_add_one, hdd, List.map_append, List.map_append]
      rfl
    cases d with
    | beats n =>
      simp only [Deed.d]
      walk_at "pw"
      rw [if_neg (by decide)]
      exact h1 _ _ ⟨e, rfl⟩
    | ring =>
      simp only [Deed.d]
      walk_at "pw"
      rw [if_neg (by decide)]
      exact h1 _ _ ⟨e, rfl⟩
    | turn l zs =>
      simp only [Deed.d]
      walk_at "pw"
      have := nodup_le hm.1 hm.2
      refine ⟨_, _, rfl, its_turns l zs, by rw [List.length_map, sizeLine_eq]; omega, ?_⟩
      walk_at "pw"
      exact h1 _ _ ⟨e, rfl⟩
theorem p_law_ways_home (ss : List Slot) (R : T → List Slot → Prop) (hl : ss.length = 2) (h : S_law_ways_home ss R) : tf_law_ways_home { nx := fun ρ => R (.d .none) (finS [] 2 ρ), rt := fun t ρ => R t (finS [] 2 ρ) } (ss ++ List.replicate 1 .un) := by
  obtain ⟨h0, ds, rfl, few, hd, lx, h⟩ := h
  simp only [tf_law_ways_home]
  walk_at "pw"
  refine ⟨h0, rfl, few, fun fin => ?_⟩
  walk_at "pw"
  refine ⟨_, _, rfl, rfl, by unfold names; rw [List.length_map, List.length_map, sizeLine_eq]; omega, ?_⟩
  walk_at "pw"
  simp only [tf_law_ways_home_1]
  walk_at "pw"
  refine ⟨ds, names h0, rfl, hd, by unfold names; rw [List.length_map]; exact few, lx, fun fin => ?_⟩
  walk_at "pw"
  have l1 : (List.map Deed.d (List.map toldM ds)).reverse.length ≤ 3000 := by rw [List.length_reverse, List.length_map, List.length_map]; exact lx
  refine ⟨by omega, by omega, _, _, rfl, rfl, by rw [sizeLine_eq]; simp only [List.length_cons, List.length_append, List.length_nil]; omega, ?_⟩
  have e : deedsD (wayB h0 ds) = .tuple (PyData.tuple [.str "turn", strsD (names h0)] :: .tuple [.str "ring"] :: ((ds.map toldM).map Deed.d).reverse ++ [.tuple [.str "turn", strsD (names h0)], .tuple [.str "ring"]]) := by
    unfold deedsD wayB mirrW
    rw [List.map_append, List.map_append, List.map_reverse, List.map_reverse]
    rfl
  rw [e] at h
  exact h _
theorem p_law_led (ss : List Slot) (R : T → List Slot → Prop) (hl : ss.length = 3) (h : S_law_led ss R) : tf_law_led { nx := fun ρ => R (.d .none) (finS [] 3 ρ), rt := fun t ρ => R t (finS [] 3 ρ) } (ss ++ List.replicate 0 .un) := by
  obtain ⟨h0, s0, d, rfl, ok, os, hd, h⟩ := h
  have few := ok.few
  have hs := okS_length os
  simp only [tf_law_led]
  cases d with
  | beats n =>
    simp only [Deed.d]
    walk_at "pw"
    obtain ⟨n0, n1⟩ : 0 ≤ n ∧ n ≤ 2000 := hd
    refine ⟨h0, s0, n, rfl, ok, os, n0, by omega, fun fin => ?_⟩
    walk_at "pw"
    rw [drop_one (by rw [List.length_map, walk_length]; omega), ← List.map_drop]
    exact h _
  | ring =>
    simp only [Deed.d]
    walk_at "pw"
    rw [if_neg (by decide)]
    simp only [tf_law_led_2]
    walk_at "pw"
    refine ⟨h0, s0, rfl, ok, hs, fun fin => ?_⟩
    rw [rung_same ok hs]
    walk_at "pw"
    exact h _
  | turn l zs =>
    simp only [Deed.d]
    walk_at "pw"
    rw [if_neg (by decide)]
    simp only [tf_law_led_2]
    walk_at "pw"
    rw [if_neg (by decide)]
    simp only [tf_law_led_1]
    walk_at "pw"
    refine ⟨h0, s0, _, zs, rfl, its_turns l zs, by omega, hs, fun fin => ?_⟩
    walk_at "pw"
    exact h _
theorem walk_drop (h : List Wkr) (s : Stg) (n : Nat) : (walkM h s n).drop 1 = (List.range n).map fun k => beatN h (k + 1) s := by
  unfold walkM
  rw [List.range_succ_eq_map, List.map_cons, List.drop_succ_cons, List.drop_zero, List.map_map]
  rfl
theorem p_law_done (ss : List Slot) (R : T → List Slot → Prop) (hl : ss.length = 3) (h : S_law_done ss R) : tf_law_done { nx := fun ρ => R (.d .none) (finS [] 3 ρ), rt := fun t ρ => R t (finS [] 3 ρ) } (ss ++ List.replicate 3 .un) := by
  obtain ⟨h0, s0, ds, rfl, ⟨ok, os, hd, hb, lx⟩, h⟩ := h
  have hs := okS_length os
  simp only [tf_law_done]
  walk_at "pw"
  refine ⟨h0, s0, rfl, ok, hs, fun fin => ?_⟩
  walk_at "pw"
  simp only [tf_law_done_4]
  walk_at "pw"
  refine lp_at (fun i ρ => ρ = [.own (.d (houD h0)), .own (.d (stD (hEnd h0 s0 (ds.take i)))), .own (.d (.list (ds.map Deed.d))), .own (.ls (hRows h0 s0 (ds.take i))), .un, .un]) rfl ?_ ?_
  · rintro ρ rfl
    rw [List.length_map, List.take_length]
    simp only [tf_law_done_3]
    walk_at "pw"
    exact h _
  · rintro i x ρ k hx rfl hk
    obtain ⟨d, hdd, rfl⟩ := map_at hx
    have hm := hd d (List.mem_of_getElem? hdd)
    have ht : ds.take (i + 1) = ds.take i ++ [d] := by rw [List.take_add_one, hdd]; rfl
    have oi := okS_hEnd ok (ds.take i) os
    have hi : ∀ d ∈ ds.take i, DeedOk (names h0) d := fun d h => hd d (List.take_subset _ _ h)
    have l1 := hRows_length (h := h0) (s := s0) hi
    have l3 := beatsOf_take hd i
    have fin : k [.own (.d (houD h0)), .own (.d (stD (dEnd h0 (hEnd h0 s0 (ds.take i)) d))), .own (.d (.list (ds.map Deed.d))), .own (.ls (hRows h0 s0 (ds.take i) ++ (dSts h0 (hEnd h0 s0 (ds.take i)) d).map (rowD h0))), .un, .un] := by
      refine hk _ ?_
      rw [ht, hEnd_append]
      have e : hRows h0 s0 (ds.take i) ++ (dSts h0 (hEnd h0 s0 (ds.take i)) d).map (rowD h0) = hRows h0 s0 (ds.take i ++ [d]) := by
        unfold hRows
        rw [hSts_append, ← List.map_append, List.cons_append]
        show _ = List.map _ (_ :: (_ ++ (dSts h0 (hEnd h0 s0 (ds.take i)) d ++ [])))
        rw [List.append_nil]
      rw [e]
      rfl
    generalize hEnd h0 s0 (ds.take i) = s1 at oi fin
    generalize hRows h0 s0 (ds.take i) = rs at l1 fin
    simp only [tf_law_done_2]
    walk_at "pw"
    refine ⟨h0, s1, d, rfl, ok, oi, hm, fun fn => ?_⟩
    walk_at "pw"
    cases d with
    | turn l zs =>
      simp only [ledM, List.map_cons, List.map_nil, lp]
      walk_at "pw"
      simp only [tf_law_done_1, Deed.d]
      walk_at "pw"
      rw [if_neg (by decide)]
      simp only [dSts, List.map_nil, List.append_nil] at fin
      exact fin
    | ring =>
      simp only [ledM, List.map_cons, List.map_nil, lp]
      walk_at "pw"
      simp only [tf_law_done_1, Deed.d]
      walk_at "pw"
      rw [if_neg (by decide)]
      simp only [dSts, List.map_nil, List.append_nil] at fin
      exact fin
    | beats n =>
      obtain ⟨n0, n1⟩ : 0 ≤ n ∧ n ≤ 2000 := hm
      simp only [ledM, dSts] at fin ⊢
      rw [walk_drop] at fin ⊢
      refine lp_at (fun j ρ => ρ = [.own (.d (houD h0)), .own (.d (stD (beatN h0 j s1))), .own (.d (.list (ds.map Deed.d))), .own (.ls (rs ++ ((List.range j).map fun k => beatN h0 (k + 1) s1).map (rowD h0))), .own (.d (Deed.beats n).d), .un]) ?_ ?_ ?_
      · simp [beatN]
      · rintro ρ rfl
        rw [List.length_map, List.length_map, List.length_range]
        exact fin
      · rintro j x ρ k hx rfl hk
        obtain ⟨y, hy, rfl⟩ := map_at hx
        have hj : j < n.toNat := by have := (List.getElem?_eq_some_iff.mp hy).1; rwa [List.length_map, List.length_range] at this
        rw [List.getElem?_map, List.getElem?_range hj] at hy
        cases hy
        have oj := okS_beatN ok oi (j + 1)
        walk_at "pw"
        simp only [tf_law_done_1, Deed.d]
        walk_at "pw"
        refine ⟨h0, _, rfl, ok, okS_length oj, fun fn => ?_⟩
        walk_at "pw"
        refine ⟨by rw [List.length_range]; omega, hk _ ?_⟩
        rw [List.range_succ, List.map_append, List.map_append, List.append_assoc]
        rfl
end PW
end HmHP
section HmK
set_option maxRecDepth 100000
set_option maxHeartbeats 1000000
/-! HmK: the mathematics of histories: there and back. -/
namespace PW
open PySem L2
open PyProof.Rows hiding St
/-! ### likeness of data with itself -/
mutual
theorem eqv_self : ∀ {x : D}, PyData.canLay0 x = true → PyData.eqv x x = true
  | .none, _ => rfl
  | .bool b, _ => by simp [PyData.eqv]
  | .int i, _ => by simp [PyData.eqv]
  | .str z, _ => by simp [PyData.eqv]
  | .list xs, h => by
    simp only [PyData.canLay0] at h
    unfold PyData.eqv
    exact eqv_selfs h
  | .tuple xs, h => by
    simp only [PyData.canLay0] at h
    unfold PyData.eqv
    exact eqv_selfs h
  | .dict _, h => by simp [PyData.canLay0] at h
theorem eqv_selfs : ∀ {xs : List D}, PyData.canLayAll0 xs = true → PyData.eqvAll xs xs = true
  | [], _ => rfl
  | x :: xs, h => by
    unfold PyData.canLayAll0 at h
    rw [Bool.and_eq_true] at h
    unfold PyData.eqvAll
    rw [eqv_self h.1, eqv_selfs h.2]
    rfl
end
theorem ne_self {x : D} (h : PyData.canLay0 x = true) (hc : (!PyData.eqv x x) = true) : False := by rw [eqv_self h] at hc; cases hc
theorem tq_tup {n : Nat} {xs : List D} (h1 : xs.length ≤ 7) (h : ∀ x ∈ xs, Tq n x) : Tq (n + 1) (.tuple xs) := ⟨h1, h⟩
theorem tq_nil {n : Nat} : Tq (n + 1) (.tuple []) := ⟨by simp, by simp⟩
theorem tq_one {n : Nat} {a : D} (ha : Tq n a) : Tq (n + 1) (.tuple [a]) := ⟨by simp, by simpa using ha⟩
theorem tq_two {n : Nat} {a b : D} (ha : Tq n a) (hb : Tq n b) : Tq (n + 1) (.tuple [a, b]) := ⟨by simp, by simpa using ⟨ha, hb⟩⟩
theorem tq_str {n : Nat} {z : Str} (h : PyData.strOk z = true ∧ z.length ≤ 10) : Tq n (.str z) := by cases n <;> exact h
theorem tq_int {n : Nat} {i : Int} (h : i.natAbs < 10 ^ 31) : Tq n (.int i) := by cases n <;> exact h
theorem deed_tq {ns : List Str} {d : Deed} (h : DeedOk ns d) (few : ns.length ≤ 5) (ok : ∀ z ∈ ns, PyData.strOk z = true ∧ z.length ≤ 10) : Tq 3 d.d := by
  cases d with
  | beats n => exact tq_two (tq_str ⟨by decide +kernel, by decide⟩) (tq_int (by have := h.1; have := h.2; omega))
  | ring => exact tq_one (tq_str ⟨by decide +kernel, by decide⟩)
  | turn l zs =>
    have hz := nodup_le h.1 h.2
    have ht : ∀ z ∈ zs.map PyData.str, Tq 1 z := fun z hz' => by
      obtain ⟨y, hy, rfl⟩ := List.mem_map.mp hz'
      exact tq_str (ok y (h.2 y hy))
    refine tq_two (tq_str ⟨by decide +kernel, by decide⟩) ?_
    cases l
    · exact ⟨by rw [List.length_map]; omega, ht⟩
    · exact ⟨by rw [List.length_map]; omega, ht⟩
/-- names as the sack gives them -/
def NmsOk (h : List Wkr) : Prop := ∀ z ∈ names h, PyData.strOk z = true ∧ z.length ≤ 10
theorem deeds_tq {h : List Wkr} {ds : List Deed} (few : h.length ≤ 5) (ok : NmsOk h) (hd : ∀ d ∈ ds, DeedOk (names h) d) : ∀ x ∈ ds.map Deed.d, Tq 3 x := fun x hx => by
  obtain ⟨d, hdd, rfl⟩ := List.mem_map.mp hx
  exact deed_tq (hd d hdd) (by rw [names_length]; exact few) ok
theorem Alk.mono : ∀ {n m : Nat} {x : D}, Alk n x → n ≤ m → Alk m x
  | 0, _, _, h, _ => h.elim
  | n + 1, 0, _, _, l => by omega
  | n + 1, m + 1, .int _, _, _ => True.intro
  | n + 1, m + 1, .bool _, _, _ => True.intro
  | n + 1, m + 1, .str _, _, _ => True.intro
  | n + 1, m + 1, .tuple xs, h, l => ⟨h.1, fun x hx => (h.2 x hx).mono (by omega)⟩
  | n + 1, m + 1, .list xs, h, l => ⟨h.1, fun x hx => (h.2 x hx).mono (by omega)⟩
  | n + 1, m + 1, .none, h, _ => h.elim
  | n + 1, m + 1, .dict _, h, _ => h.elim
theorem alk_strs {k : Nat} (zs : List Str) : ∀ x ∈ zs.map PyData.str, Alk (k + 1) x := fun x hx => by
  obtain ⟨y, _, rfl⟩ := List.mem_map.mp hx
  exact True.intro
theorem alk_deed {ns : List Str} {d : Deed} (h : DeedOk ns d) (few : ns.length ≤ 64) : Alk 3 d.d := by
  cases d with
  | beats n => exact ⟨by rw [sizeLine_eq]; simp, fun x hx => by
      have : x = .str "beats" ∨ x = .int n := by simpa using hx
      rcases this with rfl | rfl <;> exact True.intro⟩
  | ring => exact ⟨by rw [sizeLine_eq]; simp, fun x hx => by
      have : x = .str "ring" := by simpa using hx
      rw [this]; exact True.intro⟩
  | turn l zs =>
    have hz := nodup_le h.1 h.2
    exact ⟨by rw [sizeLine_eq]; simp, fun x hx => by
      have : x = .str "turn" ∨ x = turnsD l zs := by simpa using hx
      rcases this with rfl | rfl
      · exact True.intro
      · cases l
        · exact ⟨by rw [List.length_map, sizeLine_eq]; omega, alk_strs zs⟩
        · exact ⟨by rw [List.length_map, sizeLine_eq]; omega, alk_strs zs⟩⟩
theorem alk_deeds {ns : List Str} {ds : List Deed} (h : ∀ d ∈ ds, DeedOk ns d) (few : ns.length ≤ 64) (l : ds.length ≤ 100000) : Alk 6 (deedsD ds) :=
  Alk.mono (n := 4) ⟨by rw [List.length_map, sizeLine_eq]; omega, fun x hx => by
    obtain ⟨d, hd, rfl⟩ := List.mem_map.mp hx
    exact alk_deed (h d hd) few⟩ (by omega)
/-! ### data of histories has a shape -/
theorem lay_strs {zs : List Str} (h : ∀ z ∈ zs, PyData.strOk z = true) : ∀ x ∈ zs.map PyData.str, Lay 0 x := fun x hx => by
  obtain ⟨z, hz, rfl⟩ := List.mem_map.mp hx
  exact lay_str (h z hz)
theorem lay_st (s : Stg) : Lay 2 (stD s) := lay_tup fun x hx => by
  obtain ⟨p, _, rfl⟩ := List.mem_map.mp hx
  exact lay_tup fun y hy => by
    have : y = .int p.1 ∨ y = .int p.2 := by simpa using hy
    rcases this with rfl | rfl <;> exact lay_int _
theorem lay_row {h : List Wkr} (ok : OkH h) (s : Stg) : Lay 1 (rowD h s) := lay_tup (lay_strs (rows_ok ok s))
theorem lay_rows {h : List Wkr} (ok : OkH h) (l : List Stg) : Lay 2 (.list (l.map (rowD h))) := lay_lst fun x hx => by
  obtain ⟨s, _, rfl⟩ := List.mem_map.mp hx
  exact lay_row ok s
theorem lay_pair {d : Nat} {a b : D} (ha : Lay d a) (hb : Lay d b) : Lay (d + 1) (.tuple [a, b]) := lay_tup fun x hx => by
  have : x = a ∨ x = b := by simpa using hx
  rcases this with rfl | rfl <;> assumption
theorem lay_done {h : List Wkr} (ok : OkH h) (s : Stg) (ds : List Deed) : Lay 3 (doneD h s ds) := lay_pair (lay_st _) (lay_rows ok _)
theorem lay_deed {ns : List Str} {d : Deed} (h : DeedOk ns d) (ok : ∀ z ∈ ns, PyData.strOk z = true) : Lay 3 d.d := by
  cases d with
  | beats n => exact (lay_pair (d := 0) (lay_str (by decide +kernel)) (lay_int n)).mono (by omega)
  | ring => exact Lay.mono (d := 1) (lay_tup fun x hx => by
      have : x = .str "ring" := by simpa using hx
      rw [this]; exact lay_str (by decide +kernel)) (by omega)
  | turn l zs => exact Lay.mono (d := 2) (lay_pair ((lay_str (by decide +kernel)).mono (by omega)) (by
      cases l
      · exact lay_tup (lay_strs fun z hz => ok z (h.2 z hz))
      · exact lay_lst (lay_strs fun z hz => ok z (h.2 z hz)))) (by omega)
theorem lay_deeds {ns : List Str} {ds : List Deed} (h : ∀ d ∈ ds, DeedOk ns d) (ok : ∀ z ∈ ns, PyData.strOk z = true) : Lay 4 (deedsD ds) := lay_tup fun x hx => by
  obtain ⟨d, hd, rfl⟩ := List.mem_map.mp hx
  exact lay_deed (h d hd) ok
/-! ### there and back -/
theorem row_turnd (a : List Str) (h : List Wkr) (s : Stg) : rowD h (turnd a h s) = rowD h s := by unfold rowD rowOf; rw [here_turnd]
theorem rowD_mir (h : List Wkr) (s : Stg) : rowD h (mirM h s) = rowD h s := by unfold rowD; rw [row_mir]
theorem dEnd_told (h : List Wkr) (s : Stg) (d : Deed) : dEnd h s (toldM d) = dEnd h s d := by cases d <;> rfl
theorem dSts_told (h : List Wkr) (s : Stg) (d : Deed) : dSts h s (toldM d) = dSts h s d := by cases d <;> rfl
theorem hEnd_told (h : List Wkr) : ∀ (ds : List Deed) (s : Stg), hEnd h s (ds.map toldM) = hEnd h s ds
  | [], _ => rfl
  | d :: ds, s => by
    show hEnd h (dEnd h s (toldM d)) (ds.map toldM) = _
    rw [dEnd_told, hEnd_told h ds]
    rfl
theorem hSts_told (h : List Wkr) : ∀ (ds : List Deed) (s : Stg), hSts h s (ds.map toldM) = hSts h s ds
  | [], _ => rfl
  | d :: ds, s => by
    show dSts h s (toldM d) ++ hSts h (dEnd h s (toldM d)) (ds.map toldM) = _
    rw [dEnd_told, dSts_told, hSts_told h ds]
    rfl
theorem dEnd_mir {h : List Wkr} {s : Stg} (ok : OkH h) (o : OkS h s) (d : Deed) : dEnd h (mirM h (dEnd h s d)) d = mirM h s := by
  have e := okS_length o
  cases d with
  | beats n => exact beatN_mir ok o n.toNat
  | turn l a =>
    show turnd a h (mirM h (turnd a h s)) = mirM h s
    unfold mirM
    rw [rung_turnd, turnd_comm (names h) a, turnd_twice a]
    exact okS_length (okS_turnd _ (okS_rung o))
  | ring =>
    show rungM h (mirM h (rungM h s)) = mirM h s
    unfold mirM
    rw [rung_rung e, rung_turnd]
theorem hEnd_mir {h : List Wkr} (ok : OkH h) : ∀ (ds : List Deed) {s : Stg}, OkS h s → hEnd h (mirM h (hEnd h s ds)) ds.reverse = mirM h s
  | [], _, _ => rfl
  | d :: ds, s, o => by
    rw [List.reverse_cons, hEnd_append]
    show dEnd h (hEnd h (mirM h (hEnd h (dEnd h s d) ds)) ds.reverse) d = _
    rw [hEnd_mir ok ds (okS_dEnd (ns := []) ok o), dEnd_mir ok o]
theorem dRows_mir {h : List Wkr} {s : Stg} (ok : OkH h) (o : OkS h s) (d : Deed) : rowD h (dEnd h s d) :: (dSts h (mirM h (dEnd h s d)) d).map (rowD h) = (rowD h s :: (dSts h s d).map (rowD h)).reverse := by
  cases d with
  | turn l a => exact congrArg (· :: []) (row_turnd a h s)
  | ring => exact congrArg (· :: []) (row_turnd _ h s)
  | beats n =>
    have e := walk_rev ok o n.toNat
    have q : ∀ x : Stg, walkM h x n.toNat = x :: (walkM h x n.toNat).drop 1 := fun x => by
      rw [walk_drop]
      unfold walkM
      rw [List.range_succ_eq_map, List.map_cons, List.map_map]
      rfl
    show rowD h (beatN h n.toNat s) :: ((walkM h (mirM h (beatN h n.toNat s)) n.toNat).drop 1).map (rowD h) = (rowD h s :: ((walkM h s n.toNat).drop 1).map (rowD h)).reverse
    rw [← List.map_cons (f := rowD h) (a := s), ← q s, ← rowD_mir h (beatN h n.toNat s), ← List.map_cons (f := rowD h), ← q]
    rw [← List.reverse_reverse (List.map (rowD h) (walkM h (mirM h (beatN h n.toNat s)) n.toNat))]
    exact congrArg List.reverse e
theorem hRows_mir {h : List Wkr} (ok : OkH h) : ∀ (ds : List Deed) {s : Stg}, OkS h s → hRows h (mirM h (hEnd h s ds)) ds.reverse = (hRows h s ds).reverse
  | [], s, _ => by
    show [rowD h (mirM h s)] = [rowD h s]
    rw [rowD_mir]
  | d :: ds, s, o => by
    have o' := okS_dEnd (ns := []) (d := d) ok o
    have ih := hRows_mir ok ds o'
    have e := dRows_mir ok o d
    unfold hRows at ih ⊢
    have el : hSts h (mirM h (hEnd h s (d :: ds))) (d :: ds).reverse = hSts h (mirM h (hEnd h (dEnd h s d) ds)) ds.reverse ++ dSts h (mirM h (dEnd h s d)) d := by
      rw [List.reverse_cons, hSts_append]
      show hSts h (mirM h (hEnd h (dEnd h s d) ds)) ds.reverse ++ (dSts h (hEnd h (mirM h (hEnd h (dEnd h s d) ds)) ds.reverse) d ++ []) = _
      rw [List.append_nil, hEnd_mir ok ds o']
    have er : hSts h s (d :: ds) = dSts h s d ++ hSts h (dEnd h s d) ds := rfl
    rw [el, er, ← List.cons_append, List.map_append]
    have ih2 : List.map (rowD h) (mirM h (hEnd h s (d :: ds)) :: hSts h (mirM h (hEnd h (dEnd h s d) ds)) ds.reverse) = ((hSts h (dEnd h s d) ds).map (rowD h)).reverse ++ [rowD h (dEnd h s d)] := by
      have := ih
      rw [List.map_cons (f := rowD h) (a := dEnd h s d), List.reverse_cons] at this
      exact this
    rw [ih2, List.append_assoc, List.singleton_append, e, List.map_cons, List.map_append, ← List.cons_append, List.reverse_append]
theorem hEnd_way {h : List Wkr} (ok : OkH h) {s : Stg} (o : OkS h s) (ds : List Deed) : hEnd h (hEnd h s ds) (wayB h ds) = s := by
  have oe := okS_hEnd ok ds o
  have m : ∀ x, hEnd h x (mirrW h) = mirM h x := fun x => rung_turnd (names h) h x
  unfold wayB
  rw [hEnd_append, hEnd_append, m, m, hEnd_told, hEnd_mir ok ds o, mirmir o]
theorem hRows_way {h : List Wkr} (ok : OkH h) {s : Stg} (o : OkS h s) (ds : List Deed) : hRows h (hEnd h s ds) (wayB h ds) = (hRows h s ds).reverse := by
  have m : ∀ x, hEnd h x (mirrW h) = mirM h x := fun x => rung_turnd (names h) h x
  have z : ∀ x, hSts h x (mirrW h) = [] := fun _ => rfl
  have e := hRows_mir ok ds o
  unfold wayB
  unfold hRows at e ⊢
  rw [hSts_append, hSts_append, z, z, m, hSts_told, List.append_nil, List.nil_append, List.map_cons, ← rowD_mir, ← List.map_cons, e]
theorem way_ok {h : List Wkr} {ds : List Deed} (nd : (names h).Nodup) (hd : ∀ d ∈ ds, DeedOk (names h) d) : ∀ d ∈ wayB h ds, DeedOk (names h) d := fun d hm => by
  unfold wayB at hm
  have a : ∀ d ∈ mirrW h, DeedOk (names h) d := fun d hm => by
    have : d = .turn false (names h) ∨ d = .ring := by simpa [mirrW] using hm
    rcases this with rfl | rfl
    · exact ⟨nd, fun _ h => h⟩
    · exact trivial
  rcases List.mem_append.mp hm with q | q
  · rcases List.mem_append.mp q with q | q
    · exact a d q
    · obtain ⟨e, he, rfl⟩ := List.mem_map.mp q
      exact told_ok (hd e (List.mem_reverse.mp he))
  · exact a d q
theorem bt_told (d : Deed) : (toldM d).bt = d.bt := by cases d <;> rfl
theorem beatsOf_perm {a b : List Deed} (p : a.Perm b) : beatsOf a = beatsOf b := by
  induction p with
  | nil => rfl
  | cons x _ ih => rw [beatsOf_cons, beatsOf_cons, ih]
  | swap x y l => rw [beatsOf_cons, beatsOf_cons, beatsOf_cons, beatsOf_cons]; omega
  | trans _ _ a b => exact a.trans b
theorem beatsOf_told (ds : List Deed) : beatsOf (ds.map toldM) = beatsOf ds := by
  induction ds with
  | nil => rfl
  | cons d ds ih => rw [List.map_cons, beatsOf_cons, beatsOf_cons, ih, bt_told]
theorem beatsOf_rev (ds : List Deed) : beatsOf ds.reverse = beatsOf ds := beatsOf_perm (List.reverse_perm ds)
theorem beatsOf_way (h : List Wkr) (ds : List Deed) : beatsOf (wayB h ds) = beatsOf ds := by
  unfold wayB
  rw [beatsOf_append, beatsOf_append, beatsOf_told, beatsOf_rev]
  have : beatsOf (mirrW h) = 0 := rfl
  omega
theorem good_names {ns zs : List Str} (nd : zs.Nodup) (hin : ∀ z ∈ zs, z ∈ ns) : badNames ns zs = false := by
  unfold badNames
  rw [List.any_eq_false]
  intro z hz
  have h1 := List.nodup_iff_count.mp nd z
  have h2 := hin z hz
  simp only [h2, not_true, decide_false, Bool.false_or]
  rw [decide_eq_true_eq]
  omega
theorem fault_good {ns : List Str} {d : Deed} {a : Int} (h : DeedOk ns d) (hb : a + d.bt ≤ 2000) : faultM ns d.d a = none := by
  unfold faultM
  rw [deedM_d]
  cases d with
  | beats n =>
    have hb : a + n ≤ 2000 := hb
    show faultD ns a (.beats n) = none
    rw [faultD_beats, if_pos ⟨h.1, by omega⟩]
  | turn l zs =>
    show faultD ns a (.turn l zs) = none
    rw [faultD_turn, good_names h.1 h.2]
    rfl
  | ring => rfl
theorem gone_d (d : Deed) : goneM d.d = d.bt := by unfold goneM; rw [deedM_d]
theorem dueH_good {ns : List Str} : ∀ {ds : List Deed} {a : Int} {k : Nat}, (∀ d ∈ ds, DeedOk ns d) → a + beatsOf ds ≤ 2000 → dueH ns a k (ds.map Deed.d) = none
  | [], _, _, _, _ => rfl
  | d :: ds, a, k, h, hb => by
    rw [beatsOf_cons] at hb
    have hp := beatsOf_pos (ds := ds) fun e he => h e (List.mem_cons_of_mem _ he)
    rw [List.map_cons]
    unfold dueH
    rw [fault_good (h d (by simp)) (by omega), gone_d]
    exact dueH_good (fun e he => h e (List.mem_cons_of_mem _ he)) (by omega)
end PW
end HmK
section PwTo
set_option maxRecDepth 100000
set_option maxHeartbeats 1000000
/-! PwTo: pairs of data and an owned list: told back by a def, lent to a call, cleared in the list; frozen. -/
namespace PW
open PySem PySem.Spec L2
open PyProof.Rows hiding St
abbrev tpL (d : D) (xs : List D) : T := .tp [.d d, .ls xs]
def tpD (d : D) (xs : List D) : D := .tuple [d, .list xs]
section
variable {K : PySem.W.Frag} {H : Hp} {d : D} {xs : List D} {v : V} {ws : List Addr}
theorem tpL_rep : RepT K H (tpL d xs) v ws ↔ ∃ (a : Addr) (v1 : V) (l : Addr) (ys : List V), v = .ref a ∧ SqT K H a [v1, .ref l] ∧ RepD K H d v1 ∧ H l = some (.lst ys) ∧ RepDs K H xs ys ∧ ws = [l] := by
  constructor
  · rintro ⟨a, vs, e, hs, v1, r1, w1, w2, e1, ⟨h1, ew1⟩, ⟨v2, r2, w3, w4, e2, ⟨l, ys, e3, hl, hr, ew3⟩, ⟨e4, ew4⟩, ew2⟩, ew⟩
    subst e e4 ew4 ew1 e3 ew3 ew2 e2 e1 ew
    exact ⟨a, v1, l, ys, rfl, hs, h1, hl, hr, rfl⟩
  · rintro ⟨a, v1, l, ys, e, hs, h1, hl, hr, ew⟩
    subst e ew
    exact ⟨a, _, rfl, hs, v1, _, [], [l], rfl, ⟨h1, rfl⟩, ⟨V.ref l, [], [l], [], rfl, ⟨l, ys, rfl, hl, hr, rfl⟩, ⟨rfl, rfl⟩, rfl⟩, rfl⟩
end
/-- (data, a list that goes along) -/
def fTupL (fs : TAF) : TF := fun ρ Q => fs ρ fun os ρ1 => match os with
  | [.val (.d d), .val (.ls xs)] => Q (.val (tpL d xs)) ρ1
  | _ => False
section
variable {X : Cx} {e : Expr} {es : List Expr} {fs : TAF} {f : TF} {pos p : Pos} {x1 : Nat} {i : Nat}
theorem ve_tupL (ha : VA X es fs) : VE X (.Tuple es x1 pos) (fTupL fs) := (pe_tup ha).pwi fun σ H Q ⟨P, ρ, W, R, G, q, k⟩ => ⟨P, ρ, W, _, G, q, fun vs H1 os ρ1 r1 h1 => by
  obtain ⟨ws, W1, st, nd, sr, rp⟩ := r1
  split at h1
  · rename_i d xs
    obtain ⟨v1, r1, w1, w2, e1, ⟨h11, ew1⟩, ⟨v2, r2, w3, w4, e2, ⟨l, ys, e3, hl, hr, ew3⟩, ⟨e4, ew4⟩, ew2⟩, ew⟩ := rp
    subst e4 ew4 ew1 e3 ew3 ew2 e2 e1
    refine ⟨by show 2 ≤ sizeLine; rw [sizeLine_eq]; omega, fun p hp => ?_⟩
    have sm : Same H1 (upd H1 p (.tup [v1, .ref l])) := same_upd hp
    refine k _ _ (.val (tpL d xs)) _ ⟨[l], W1, ⟨fun b o h hb => sm b o (st.keep b o h hb), fun b hb => st.new b (by simpa [ew] using hb)⟩, by simpa [ew] using nd, sr.after (W0 := []) (fun b o h _ => sm b o h) (by simp) (by simp) (by simp), ?_⟩ h1
    exact tpL_rep.mpr ⟨p, v1, l, ys, rfl, .inl (.inl upd_same), h11.keep (.same sm), sm _ _ hl, hr.keep (.same sm), rfl⟩
  · exact h1.elim⟩
/-- such a new pair as data: nobody changes its list from here on -/
def fFzT (f : TF) : TF := fun ρ Q => f ρ fun o ρ1 => match o with
  | .val (.tp [.d d, .ls xs]) => Q (.val (.d (tpD d xs))) ρ1
  | _ => False
theorem ve_fzT (h : VE X e f) : VE X e (fFzT f) := by
  refine ⟨fun pins s σ H Q I ⟨P, ρ, W, R, G, q, k⟩ => ?_⟩
  refine thn (h.run pins s σ H (fun v H1 => ∃ o ρ1, Res X.K P H σ W v H1 o ρ1 ∧ (match o with
    | .val (.tp [.d d, .ls xs]) => R (.val (.d (tpD d xs))) ρ1
    | _ => False)) I ⟨P, ρ, W, _, G, q, fun v H1 o ρ1 r1 h1 => ⟨o, ρ1, r1, h1⟩⟩) fun u s1 ⟨v, H1, I1, r1, o, ρ1, rs, h1⟩ => ?_
  split at h1
  · rename_i d xs
    obtain ⟨ws, W1, st, nd, sr, rt⟩ := rs
    obtain ⟨a, v1, l, vs, e, hs, hd, hl, hr, ew⟩ := tpL_rep.mp rt
    subst e ew
    obtain ⟨od, I2⟩ := I1.lock hl trivial
    have na : l ∉ W1 := nd_apart nd l (by simp)
    have ap := G.apart st
    have k1 : Kept [l] H1 (upd H1 l (.frz od (.lst vs))) := ⟨fun b o hb hn => by rw [upd_ne (by simpa using hn)]; exact hb, fun b hb => by
      have : b = l := by simpa using hb
      subst this; exact .inl ⟨_, hl⟩⟩
    refine ⟨_, _, I2, r1, k _ _ (.val (.d (tpD d xs))) _ ⟨[], W1, ⟨fun b o h hb => ?_, fun b hb => st.new b (List.mem_append_right _ hb)⟩, nd_right nd, sr.after (W0 := [l]) k1.keep k1.mu (fun b hb z => (ap b hb).1 (List.mem_append_left _ z)) (fun b hb z => by
      have : b = l := by simpa using z
      subst this; exact na hb), ⟨⟨a, _, rfl, k1.sqT hs, v1, _, rfl, hd.keep k1, .ref l, [], rfl, ⟨l, vs, rfl, .inl ⟨od, upd_same⟩, hr.keep k1⟩, rfl⟩, rfl⟩⟩ h1⟩
    have hne : b ≠ l := fun z => by
      rcases st.new l (by simp) with y | y
      · exact hb (by rw [z]; exact y)
      · rw [z, y] at h; cases h
    rw [upd_ne hne]
    exact st.keep b o h hb
  · exact h1.elim
/-! ### lent to a call as data -/
def dsC (i : Nat) (bd : D) : List Opv → Option (List D)
  | [] => some []
  | .val (.d x) :: os => match dsC i bd os with
    | some ys => some (x :: ys)
    | none => none
  | .slot j :: os => if j = i then (match dsC i bd os with
    | some ys => some (bd :: ys)
    | none => none) else none
  | _ => none
theorem dsC_rep {K : PySem.W.Frag} {H H' : Hp} {σ : St} {bd : D} {a : Addr} (hv : σ[i]? = some (some (.ref a))) (hl : RepD K H' bd (.ref a)) (hk : ∀ {d : D} {v : V}, RepD K H d v → RepD K H' d v) : ∀ {os : List Opv} {ds : List D} {vs : List V} {ws : List Addr}, dsC i bd os = some ds → RepOs K H σ os vs ws → RepDs K H' ds vs ∧ ws = []
  | [], ds, vs, ws, h, ⟨e, ew⟩ => by cases h; exact ⟨e, ew⟩
  | .val (.d x) :: os, ds, vs, ws, h, ⟨v, r, w1, w2, e, h1, h2, ew⟩ => by
    unfold dsC at h
    split at h
    · rename_i ys hy
      cases h
      obtain ⟨g, e2⟩ := dsC_rep hv hl hk hy h2
      exact ⟨⟨v, r, e, hk h1.1, g⟩, by rw [ew, h1.2, e2]; rfl⟩
    · cases h
  | .slot j :: os, ds, vs, ws, h, ⟨v, r, w1, w2, e, h1, h2, ew⟩ => by
    unfold dsC at h
    split at h
    · rename_i hj
      split at h
      · rename_i ys hy
        cases h
        obtain ⟨g, e2⟩ := dsC_rep hv hl hk hy h2
        subst hj
        have e3 : v = .ref a := by
          have z := h1.1
          rw [hv] at z
          injection z with z
          injection z with z
          exact z.symm
        subst e3
        exact ⟨⟨_, r, e, hl, g⟩, by rw [ew, h1.2, e2]; rfl⟩
      · cases h
    · cases h
  | .val (.ls _) :: _, _, _, _, h, _ => by cases h
  | .val (.lt _) :: _, _, _, _, h, _ => by cases h
  | .val (.dk _) :: _, _, _, _, h, _ => by cases h
  | .val (.tp _) :: _, _, _, _, h, _ => by cases h
  | .val (.ex _ _ _) :: _, _, _, _, h, _ => by cases h
  | .val (.ob _ _) :: _, _, _, _, h, _ => by cases h
  | .val (.pt _) :: _, _, _, _, h, _ => by cases h
def fCallBT (i n : Nat) (S : FS) (fs : TAF) : TF := fun ρ Q => fs ρ fun os ρ1 => match ρ1[i]? with
  | some (.own (.tp [.d d, .ls xs])) => match dsC i (tpD d xs) os with
    | some ds => ds.length = n ∧ S (ds.map fun d => .own (.d d)) fun t _ => match t with
      | .d d => scal d = true ∧ Q (.val (.d d)) ρ1
      | _ => False
    | none => False
  | _ => False
theorem vcallBT {k j n : Nat} {x : Str} {S : FS} (cl : Cal X.prog X.w X.K X.mg X.base k n x S []) (hr : Room j X.A) (hk : k ≤ j) (hg : Gl X x) (ha : VA X (e :: es) fs) (hdb : (x == ("__debug__" : Str)) = false := by decide)
    (he : starEach (e :: es) X.env = (false, eval e X.env) :: starEach es X.env := by rfl) (hpl : (backTo pos (starEach es X.env)).any (·.1) = false := by rfl) : VE X (.Call (.Name x p) (e :: es) [] pos) (fCallBT i n S fs) := by
  obtain ⟨fa, fd, ps, dV, dvs, F, hm, hk', hb, hd, rd⟩ := cl.ex
  refine ⟨fun pins s σ H Q I ⟨P, ρ, W, R, G, q, k⟩ => ?_⟩
  refine thn ((pe_call F (hr.mono hk) hg hm hk' hb hd (pass0 (X := X)) (pa_lk ha) hdb he hpl).run pins s σ H (fun v H2 => ∃ (a : Addr) (od : Obj) (xv : List V), H2 a = some (.frz od (.lst xv)) ∧ (∀ o' u', X.H_0 a ≠ some (.frz o' u')) ∧ Q v (upd H2 a (.lst xv))) I ?_) fun u s1 ⟨v, H2, I2, r, a, od, xv, e, hn, q⟩ => ⟨v, _, I2.unlock e hn, r, q⟩
  refine ⟨P, ρ, W, _, G, q, fun vs H1 os ρ1 r1 h1 => ?_⟩
  obtain ⟨ws, W1, G1, st, nd, rp⟩ := r1.good G
  split at h1
  · rename_i d0 xs hx
    split at h1
    · rename_i ds hds
      obtain ⟨hl, hS⟩ := h1
      obtain ⟨v, w0, hv, rt⟩ := G1.sr.read (.inl hx)
      obtain ⟨c, v1, a, xv, e0, hs0, hd0, ha0, hr0, _⟩ := tpL_rep.mp rt
      subst e0
      refine ⟨a, xv, ha0, fun hn od => ?_⟩
      have kp : Kept [a] H1 (upd H1 a (.frz od (.lst xv))) := ⟨fun b o hb hn => by rw [upd_ne (by simpa using hn)]; exact hb, fun b hb => by
        have : b = a := by simpa using hb
        subst this; exact .inl ⟨_, ha0⟩⟩
      have lr : RepD X.K (upd H1 a (.frz od (.lst xv))) (tpD d0 xs) (.ref c) := ⟨c, _, rfl, kp.sqT hs0, v1, _, rfl, hd0.keep kp, .ref a, [], rfl, ⟨a, xv, rfl, .inl ⟨od, upd_same⟩, hr0.keep kp⟩, rfl⟩
      obtain ⟨rds, ew⟩ := dsC_rep hv lr (fun h => h.keep kp) hds rp
      subst ew
      have ed : dvs = [] := rd H
      subst ed
      have g0 := SR.app (P := fun _ => False) (σ := []) (ss := []) (W := []) rds ⟨rfl, rfl⟩
      refine ⟨by rw [List.append_nil, rds.length, hl], fun _ => False, _, [], _, ⟨by simpa using g0, List.nodup_nil, fun b hb => hb.elim⟩, hS, fun r H2 t fin ws2 W2 st2 nd2 sr2 rp2 hR => ?_⟩
      split at hR
      · rename_i d
        obtain ⟨hs, hq⟩ := hR
        have ha2 : H2 a = some (.frz od (.lst xv)) := st2.keep a _ upd_same (by simp)
        have sm : Same H1 (upd H2 a (.lst xv)) := fun b o hb => by
          by_cases c : b = a
          · subst c; rw [upd_same, ← ha0]; exact hb
          · rw [upd_ne c]; exact st2.keep b o (by rw [upd_ne c]; exact hb) (by simp)
        refine ⟨a, od, xv, ha2, hn, k _ _ (.val (.d d)) _ ⟨[], W1, ⟨fun b o h hb => sm b o (st.keep b o h (by simpa using hb)), fun b hb => st.new b (by simpa using hb)⟩, by simpa using G1.nd, G1.sr.after (W0 := []) (fun b o h _ => sm b o h) (by simp) (by simp) (by simp), ⟨scal_rep hs rp2.1, rfl⟩⟩ hq⟩
      · exact hR.elim
    · exact h1.elim
  · exact h1.elim
/-! ### x[1].clear() -/
def fTpClr (i : Nat) : TF := fun ρ Q => match ρ[i]? with
  | some (.own (.tp [.d d, .ls _])) => Q (.val (.d .none)) (ρ.set i (.own (tpL d [])))
  | _ => False
theorem ve_tpClr {a : Expr} {b : Expr} {bp apos cpos : Pos} (ho : PE X a (tVar i)) (h1 : PE X b (tC (.int 1))) (hs : PlainIx b := by exact fun _ _ => rfl)
    (hbase : attributeBase (.Subscript a b bp) "clear" X.env (eval (.Subscript a b bp) X.env) = eval (.Subscript a b bp) X.env := by rfl) (hline : (apos.endLine == cpos.line) = true := by rfl) :
    VE X (.Call (.Attribute (.Subscript a b bp) "clear" apos) [] [] cpos) (fTpClr i) :=
  (pe_bm0 PySem.F.plainAttrs_list PySem.F.slot_list_clear PySem.F.type_list_clear mt_clear (pe_ix ix_seq ho h1 hs) hbase hline).pwi fun σ H Q ⟨P, ρ, W, R, G, q, k⟩ => by
    unfold fTpClr at q
    split at q
    · rename_i d xs hx
      obtain ⟨v, ws, W1, hv, rt, sr, m, n⟩ := G.sr.pull hx
      obtain ⟨c, v1, l, xv, e0, hs0, hd0, hl0, hr0, ew⟩ := tpL_rep.mp rt
      subst e0 ew
      have n' : ([l] ++ W1).Nodup := n G.nd
      have na : l ∉ W1 := nd_apart n' l (by simp)
      have kp : Kept [l] H (upd H l (.lst [])) := ⟨fun b o hb hn => by rw [upd_ne (by simpa using hn)]; exact hb, fun b hb => by
        have : b = l := by simpa using hb
        subst this; exact .inl ⟨_, hl0⟩⟩
      have hP : ∀ b, P b → b ≠ l := fun b hb z => (G.ap b hb).1 ((m b).mpr (by simp [z]))
      have sr1 : SR X.K P (upd H l (.lst [])) (ρ.set i .un) σ W1 := sr.after (W0 := [l]) kp.keep kp.mu (fun b hb => by simpa using hP b hb) (fun b hb z => by
        have : b = l := by simpa using z
        subst this; exact na hb)
      have hi : i < (ρ.set i .un).length := by rw [List.length_set]; exact SR.lt hx
      obtain ⟨W2, sr2, m2, n2⟩ := sr1.put (ws := [l]) (t := tpL d []) (v := .ref c) n' hi (tpL_rep.mpr ⟨c, v1, l, [], rfl, kp.sqT hs0, hd0.keep kp, upd_same, rfl, rfl⟩)
      rw [List.set_set, set_same hv] at sr2
      have sub : ∀ b ∈ W2, b ∈ W := fun b hb => (m b).mpr (m2 b hb)
      refine ⟨_, hv, .inr (.inl ⟨c, _, 1, .ref l, rfl, rfl, hs0, atI1 _ _ _, .inl ⟨rfl, xv, SqL.of hl0⟩, l, xv, rfl, rfl, hl0, ?_⟩)⟩
      refine k _ _ (.val (.d .none)) _ ⟨[], W2, ⟨fun b o hb hn => by
        rw [upd_ne fun z => hn ((m b).mpr (by simp [z]))]; exact hb, fun b hb => .inl (sub b hb)⟩, by simpa using n2, sr2, ⟨rfl, rfl⟩⟩ q
    · exact q.elim
end
end PW
end PwTo
section PwKd
set_option maxRecDepth 100000
/-! PwKd: dicts whose keys are texts that are found only then: {}, d[e] = x, d.get(e, y). -/
namespace PW
open PySem PySem.Spec L2
open PyProof.Rows hiding St
section
variable {X : Cx} {fx : List Nat} {a e ke de : Expr} {pos apos cpos : Pos} {f fk fd : TF} {i : Nat} {K : PySem.W.Frag} {H : Hp}
def fDk0 : TF := fun ρ Q => Q (.val (.dk [])) ρ
theorem ve_dk0 : VE X (.Dict [] [] pos) fDk0 := pe_dnewK.pwi fun σ H Q ⟨P, ρ, W, R, G, q, k⟩ p hp => by
  have sm : Same H (upd H p (.dK [])) := same_upd hp
  have pW : p ∉ W := fun z => by obtain ⟨o, ho⟩ := (G.mut p z).there; rw [hp] at ho; cases ho
  refine k _ _ (.val (.dk [])) ρ ⟨[p], W, ⟨fun b o h _ => sm b o h, fun b hb => ?_⟩, ?_, G.sr.after (W0 := []) (fun b o h _ => sm b o h) (by simp) (by simp) (by simp), ⟨p, [], [], rfl, upd_same, ⟨rfl, rfl⟩, rfl⟩⟩ q
  · rcases List.mem_append.mp hb with z | z
    · have : b = p := by simpa using z
      rw [this]; exact .inr hp
    · exact .inl z
  · exact List.nodup_cons.mpr ⟨pW, G.nd⟩
theorem RepKs.lookN : ∀ {kts : List (Key × T)} {kvs : List (Key × V)} {w : List Addr} {k : Key}, RepKs K H kts kvs w → lookK kts k = none → valV kvs k = none
  | [], _, _, _, ⟨e, _⟩, _ => by subst e; rfl
  | (j, u) :: r, _, _, k, ⟨v, kr, w1, w2, e, h1, h2, _⟩, h => by
    subst e
    unfold lookK at h
    by_cases hj : j = k
    · rw [if_pos hj] at h; cases h
    · rw [if_neg hj] at h
      rw [valV_neg hj]
      exact RepKs.lookN h2 h
/-- d.get(e, x) -/
def fGetD (i : Nat) (fk fd : TF) : TF := fun ρ Q => fk ρ fun o ρ1 => match o with
  | .val (.d (.str k)) => fd ρ1 fun o2 ρ2 => match o2 with
    | .val (.d y) => match ρ2[i]? with
      | some (.own (.dk kts)) => match lookK kts (.inr k) with
        | some (.d x) => Q (.val (.d x)) ρ2
        | some _ => False
        | none => Q (.val (.d y)) ρ2
      | _ => False
    | _ => False
  | _ => False
def isDk (i : Nat) : TF → TF := fun f ρ Q => (∃ kts, ρ[i]? = some (.own (.dk kts))) ∧ f ρ Q
theorem ve_getD (hr : X.A.units + 64 < cLine) (h : PE X a (tVar i)) (hk : VE X ke fk) (hd : VE X de fd) (m : M2 X a "get" apos ke de cpos := by exact ⟨by rfl, by rfl, by rfl, by rfl⟩) : VE X (.Call (.Attribute a "get" apos) [ke, de] [] cpos) (isDk i (fGetD i fk fd)) :=
  (pe_dget2 (by omega) h hk hd m).pwi fun σ H Q ⟨P, ρ, W, R, G, ⟨⟨kts0, hx0⟩, q⟩, kQ⟩ => by
    obtain ⟨v, ws, hv, b, kvs, w, e, hb, rk, _⟩ := G.sr.read (.inl hx0)
    subst e
    refine ⟨_, hv, b, rfl, .inl ⟨kvs, .inl hb⟩, P, ρ, W, _, G, q, fun kv H1 o ρ1 r1 h1 => ?_⟩
    obtain ⟨ws1, W1, G1, st1, nd1, rp1⟩ := r1.good G
    split at h1
    rotate_left
    · exact h1.elim
    rename_i k
    have ek : kv = .str k := rp1.1
    have ew1 : ws1 = [] := rp1.2
    subst ek ew1
    refine ⟨P, ρ1, W1, _, G1, h1, fun dv H2 o2 ρ2 r2 h2 => ?_⟩
    obtain ⟨ws2, W2, G2, st2, nd2, rp2⟩ := r2.good G1
    split at h2
    rotate_left
    · exact h2.elim
    rename_i y
    have ew2 : ws2 = [] := rp2.2
    subst ew2
    have st12 : Step W W2 H H2 := by simpa using (by simpa using st1 : Step W ([] ++ W1) H H1).trans (ws := []) (by simpa using st2) (by simpa using G1.nd)
    split at h2
    rotate_left
    · exact h2.elim
    rename_i kts hx
    obtain ⟨v', ws', hv', b', kvs', w', e', hb', rk', _⟩ := G2.sr.read (.inl hx)
    subst e'
    rw [hv] at hv'
    injection hv' with hv'
    injection hv' with hv'
    injection hv' with hv'
    subst hv'
    split at h2
    · rename_i x hlk
      obtain ⟨u, wu, e2, ru, _⟩ := rk'.look hlk
      refine ⟨some u, e2 ▸ DGet.k (k := .inr k) hb', ?_⟩
      exact kQ _ _ (.val (.d x)) _ ⟨[], W2, by simpa using st12, by simpa using G2.nd, G2.sr, ⟨ru, rfl⟩⟩ h2
    · exact h2.elim
    · rename_i hlk
      have e2 := RepKs.lookN rk' hlk
      refine ⟨none, e2 ▸ DGet.k (k := .inr k) hb', ?_⟩
      exact kQ _ _ (.val (.d y)) _ ⟨[], W2, by simpa using st12, by simpa using G2.nd, G2.sr, ⟨rp2.1, rfl⟩⟩ h2
/-- d[e] = data -/
def sSetKd (i : Nat) (fk f : TF) : SF := fun E ρ => f ρ fun o ρ1 => match o with
  | .val (.d x) => (∃ kts, ρ1[i]? = some (.own (.dk kts))) ∧ fk ρ1 fun o2 ρ2 => match o2 with
    | .val (.d (.str k)) => match ρ2[i]? with
      | some (.own (.dk kts)) => kts.length < sizeLine ∧ E.nx (ρ2.set i (.own (.dk (putD kts (.inr k) x))))
      | _ => False
    | _ => False
  | _ => False
theorem vs_setKd (hr : X.A.units + 64 < cLine) (he : VE X e f) (h : PE X a (tVar i)) (hk : VE X ke fk) {spos : Pos}
    (ha : ∀ v, assign (.Subscript a ke pos) X.env v = (do
      let ov ← holding [v] (eval a X.env)
      let iv ← holding [v, ov] (eval ke X.env)
      standAt pos
      holding [v, ov, iv] (setItem ov iv v)
      release [v, ov, iv] []) := by intro _; rfl)
    (hs : swapsWithSole [.Subscript a ke pos] e spos.line X.env = pure false := by rfl) (hw : swappedStores [.Subscript a ke pos] e X.env = pure none := by rfl)
    (h1 : (assignEach [.Subscript a ke pos] X.env).map (·.2) = [assign (.Subscript a ke pos) X.env] := by rfl) : VS X fx (.Assign [.Subscript a ke pos] e spos) (sSetKd i fk f) :=
  PS.pwi (ps_asg he (pg_sub h hk (set_dict (by omega)) ha) hs hw h1) fun D σ H ⟨P, ρ, W, E, G, q, k1, k2, k3, k4, k5⟩ => ⟨P, ρ, W, _, G, q, fun v H1 o ρ1 r1 h1 => by
    obtain ⟨ws, W1, G1, st, nd, rp⟩ := r1.good G
    split at h1
    rotate_left
    · exact h1.elim
    rename_i x
    have ew : ws = [] := rp.2
    subst ew
    obtain ⟨⟨kts0, hx0⟩, h1⟩ := h1
    obtain ⟨v', ws', hv, b, kvs0, w0, e, hb0, rk0, _⟩ := G1.sr.read (.inl hx0)
    subst e
    refine ⟨_, hv, P, ρ1, W1, _, G1, h1, fun kv H2 o2 ρ2 r2 h2 => ?_⟩
    obtain ⟨ws2, W2, G2, st2, nd2, rp2⟩ := r2.good G1
    split at h2
    rotate_left
    · exact h2.elim
    rename_i k
    have ek : kv = .str k := rp2.1
    have ew2 : ws2 = [] := rp2.2
    subst ek ew2
    split at h2
    rotate_left
    · exact h2.elim
    rename_i kts hx
    obtain ⟨v', ws', hv', b', kvs, w, e', hb, rk, _⟩ := G2.sr.read (.inl hx)
    subst e'
    have hvv := hv
    rw [hv'] at hvv
    injection hvv with hvv
    injection hvv with hvv
    injection hvv with hvv
    subst hvv
    have rx : RepD X.K H2 x v := rp.1.keep ⟨fun c o hc hn => st2.keep c o hc hn, G1.mut⟩
    obtain ⟨W3, st3, G3⟩ := slot_core (H' := upd H2 b' (.dK (putK kvs (.inr k) v))) (t1 := .dk (putD kts (.inr k) x)) G2 hx (fun u wu hu ru nu => by
      rw [hv'] at hu
      injection hu with hu
      injection hu with hu
      subst hu
      obtain ⟨b2, kvs', w', e', hb', rk', ew'⟩ := ru
      injection e' with e'
      subst e' ew'
      rw [hb] at hb'
      injection hb' with hb'
      injection hb' with hb'
      subst hb'
      have kp : Kept [b'] H2 (upd H2 b' (.dK (putK kvs (.inr k) v))) := ⟨fun c o hc hn => by rw [upd_ne (by simpa using hn)]; exact hc, fun c hc => by
        have : c = b' := by simpa using hc
        subst this; exact .inr (.inl ⟨_, hb⟩)⟩
      obtain ⟨w2, r2, s2⟩ := rk'.put rx (k := .inr k)
      have n2 : b' ∉ w' := (List.nodup_cons.mp nu).1
      refine ⟨b' :: w2, ⟨b', _, w2, rfl, upd_same, RepKs.keep kp r2 fun c hc hz => ?_, rfl⟩, fun c hc => ?_, List.nodup_cons.mpr ⟨fun z => n2 (s2.subset z), (List.nodup_cons.mp nu).2.sublist s2⟩, fun c o hc hn => ?_⟩
      · have : c = b' := by simpa using hz
        subst this
        exact n2 (s2.subset hc)
      · rcases List.mem_cons.mp hc with z | z
        · rw [z]; exact List.mem_cons_self ..
        · exact List.mem_cons_of_mem _ (s2.subset z)
      · rw [upd_ne (by rintro rfl; exact hn (List.mem_cons_self ..))]; exact hc)
    refine ⟨b', _, rfl, DPut.k (k := .inr k) hb (by rw [(rk.keys (k := .inr k)).2]; exact h2.1), k1 _ _ _ ⟨W3, ?_, G3, .refl⟩ h2.2⟩
    have s1 : Step W W1 H H1 := by simpa using st
    have s2 : Step W1 W2 H1 H2 := by simpa using st2
    have s12 : Step W W2 H H2 := by simpa using (by simpa using s1 : Step W ([] ++ W1) H H1).trans (ws := []) (by simpa using s2) (by simpa using G1.nd)
    simpa using (by simpa using s12 : Step W ([] ++ W2) H H2).trans (ws := []) (by simpa using st3) (by simpa using G2.nd)⟩
end
end PW
end PwKd
section PwOb
set_option maxRecDepth 100000
/-! PwOb: instances of the program's own classes: fields read, stored; methods; making. -/
namespace PW
open PySem PySem.Spec L2
open PyProof.Rows hiding St
/-- what is written of a class: its name, its address, that fields are plain -/
structure ObC (K : PySem.W.Frag) (cn : Str) (A : Addr) (fl : List Str) : Prop where
  ns : PySem.W.nsIn K mainGlobals cn = some (some (.ref A))
  cls : Cls K A
  no : ∀ f ∈ fl, NoAttr K A f
def lookF : List (Str × T) → Str → Option T
  | [], _ => none
  | (g, t) :: r, f => if g = f then some t else lookF r f
def putT (f : Str) (t : T) : List (Str × T) → List (Str × T)
  | [] => [(f, t)]
  | (g, x) :: r => if g = f then (g, t) :: r else (g, x) :: putT f t r
section
variable {K : PySem.W.Frag} {P : Addr → Prop} {H H' : Hp} {W : List Addr} {ρ : List Slot} {σ : St} {i : Nat} {cn f : Str} {A : Addr} {fl : List Str}
theorem lookup_eq {f g : Str} {x : V} {r : List (Str × V)} : List.lookup f ((g, x) :: r) = if g = f then some x else List.lookup f r := by
  rw [List.lookup_cons]
  by_cases h : g = f
  · subst h; simp
  · rw [if_neg h]
    have : (f == g) = false := by simpa using fun e : f = g => h e.symm
    rw [this]
theorem RepFt.look : ∀ {fs : List (Str × T)} {vs : List (Str × V)} {w : List Addr} {f : Str} {t : T}, RepFt K H fs vs w → lookF fs f = some t → ∃ v ws, vs.lookup f = some v ∧ RepT K H t v ws ∧ ∀ b ∈ ws, b ∈ w
  | [], _, _, _, _, _, h => by cases h
  | (g, u) :: r, _, _, f, t, ⟨v, kr, w1, w2, e, h1, h2, ew⟩, h => by
    subst e ew
    unfold lookF at h
    by_cases hj : g = f
    · rw [if_pos hj] at h
      cases h
      exact ⟨v, w1, by rw [lookup_eq, if_pos hj], h1, fun b hb => List.mem_append_left _ hb⟩
    · rw [if_neg hj] at h
      obtain ⟨v', ws', e', r', m⟩ := RepFt.look h2 h
      exact ⟨v', ws', by rw [lookup_eq, if_neg hj]; exact e', r', fun b hb => List.mem_append_right _ (m b hb)⟩
theorem RepFt.lookN : ∀ {fs : List (Str × T)} {vs : List (Str × V)} {w : List Addr} {f : Str}, RepFt K H fs vs w → lookF fs f = none → vs.lookup f = none
  | [], _, _, _, ⟨e, _⟩, _ => by subst e; rfl
  | (g, u) :: r, _, _, f, ⟨v, kr, w1, w2, e, h1, h2, ew⟩, h => by
    subst e
    unfold lookF at h
    by_cases hj : g = f
    · rw [if_pos hj] at h; cases h
    · rw [if_neg hj] at h
      rw [lookup_eq, if_neg hj]; exact RepFt.lookN h2 h
theorem RepFt.len : ∀ {fs : List (Str × T)} {vs : List (Str × V)} {w : List Addr}, RepFt K H fs vs w → vs.length = fs.length
  | [], _, _, ⟨e, _⟩ => by subst e; rfl
  | (g, u) :: r, _, _, ⟨v, kr, w1, w2, e, h1, h2, ew⟩ => by subst e; rw [List.length_cons, List.length_cons, RepFt.len h2]
theorem putF_cons {f g : Str} {y x : V} {r : List (Str × V)} : putF f y ((g, x) :: r) = if g = f then (g, y) :: r else (g, x) :: putF f y r := by conv => lhs; unfold putF
theorem RepFt.put {t : T} {v : V} {ws : List Addr} (ht : RepT K H t v ws) : ∀ {fs : List (Str × T)} {vs : List (Str × V)} {w : List Addr} {f : Str}, RepFt K H fs vs w → (w ++ ws).Nodup →
    ∃ w', RepFt K H (putT f t fs) (putF f v vs) w' ∧ (∀ b ∈ w', b ∈ w ++ ws) ∧ w'.Nodup
  | [], _, _, f, ⟨e, ew⟩, nd => by
    subst e ew
    refine ⟨ws ++ [], ⟨v, [], ws, [], by unfold putF; rfl, ht, ⟨rfl, rfl⟩, rfl⟩, fun b hb => by simpa using hb, by simpa using nd⟩
  | (g, u) :: r, _, _, f, ⟨x, kr, w1, w2, e, h1, h2, ew⟩, nd => by
    subst e ew
    unfold putT
    rw [putF_cons]
    by_cases hj : g = f
    · rw [if_pos hj, if_pos hj]
      refine ⟨ws ++ w2, ⟨v, kr, ws, w2, rfl, ht, h2, rfl⟩, fun b hb => ?_, ?_⟩
      · rcases List.mem_append.mp hb with z | z
        · exact List.mem_append_right _ z
        · exact List.mem_append_left _ (List.mem_append_right _ z)
      · rw [List.append_assoc, List.nodup_append] at nd
        obtain ⟨_, n2, _⟩ := nd
        rw [List.nodup_append] at n2
        obtain ⟨a1, a2, a3⟩ := n2
        exact List.nodup_append.mpr ⟨a2, a1, fun x hx y hy e => a3 y hy x hx e.symm⟩
    · rw [if_neg hj, if_neg hj]
      have nd2 : (w2 ++ ws).Nodup := by rw [List.append_assoc, List.nodup_append] at nd; exact nd.2.1
      obtain ⟨w', r', m, n⟩ := RepFt.put ht (f := f) h2 nd2
      refine ⟨w1 ++ w', ⟨x, _, w1, w', rfl, h1, r', rfl⟩, fun b hb => ?_, ?_⟩
      · rw [List.append_assoc]
        rcases List.mem_append.mp hb with z | z
        · exact List.mem_append_left _ z
        · exact List.mem_append_right _ (m b z)
      · rw [List.append_assoc, List.nodup_append] at nd
        obtain ⟨n1, _, n3⟩ := nd
        exact List.nodup_append.mpr ⟨n1, n, fun x hx y hy => n3 x hx y (m y hy)⟩
/-- a slot's instance read -/
theorem ob_read {fs : List (Str × T)} (oc : ObC K cn A fl) (sr : SR K P H ρ σ W) (hx : ρ[i]? = some (.own (.ob cn fs)) ∨ ρ[i]? = some (.hid (.ob cn fs))) : ∃ a dx vs w, σ[i]? = some (some (.ref a)) ∧ H a = some (.ins A dx vs) ∧ RepFt K H fs vs w := by
  obtain ⟨v, ws, hv, a, C, dx, vs, w, e, hc, ha, hd, r, ew⟩ := sr.read hx
  subst e
  rw [oc.ns] at hc
  cases hc
  exact ⟨a, dx, vs, w, hv, ha, r⟩
end
/-! ### fields read -/
def fFld (cn : Str) (i : Nat) (f : Str) : TF := fun ρ Q => match ρ[i]? with
  | some (.own (.ob c fs)) => c = cn ∧ match lookF fs f with
    | some (.d x) => Q (.val (.d x)) ρ
    | _ => False
  | some (.hid (.ob c fs)) => c = cn ∧ match lookF fs f with
    | some (.d x) => Q (.val (.d x)) ρ
    | _ => False
  | _ => False
section
variable {X : Cx} {fx : List Nat} {a e : Expr} {es : List Expr} {pos pos' : Pos} {fe : TF} {i : Nat} {cn f : Str} {A : Addr} {fl : List Str}
theorem ve_fld (oc : ObC X.K cn A fl) (hf : f ∈ fl) (h : PE X a (tVar i)) (hb : attributeBase a f X.env (eval a X.env) = eval a X.env := by rfl) : VE X (.Attribute a f pos) (fFld cn i f) := (pe_fld h hb).pwi fun σ H Q ⟨P, ρ, W, R, G, q, k⟩ => by
  have go : ∀ fs, (ρ[i]? = some (.own (.ob cn fs)) ∨ ρ[i]? = some (.hid (.ob cn fs))) → (match lookF fs f with | some (.d x) => R (.val (.d x)) ρ | _ => False) → tFld X.K (tVar i) f σ H Q := by
    intro fs hx h1
    obtain ⟨b, dx, vs, w, hv, hb, rf⟩ := ob_read oc G.sr hx
    split at h1
    · rename_i x hl
      obtain ⟨v, ws, hlk, rv, _⟩ := rf.look hl
      have ew : ws = [] := rv.2
      subst ew
      exact ⟨_, hv, b, A, dx, vs, v, rfl, hb, oc.cls, oc.no f hf, hlk, k _ _ (.val (.d x)) _ ⟨[], W, Step.refl _ _, by simpa using G.nd, G.sr, rv⟩ h1⟩
    · exact h1.elim
  unfold fFld at q
  split at q
  · rename_i c fs hx
    obtain ⟨rfl, q⟩ := q
    exact go fs (.inl hx) q
  · rename_i c fs hx
    obtain ⟨rfl, q⟩ := q
    exact go fs (.inr hx) q
  · exact q.elim
/-! ### fields stored -/
def sFldS (cn : Str) (i : Nat) (f : Str) (fe : TF) : SF := fun E ρ => fe ρ fun o ρ1 => match o with
  | .val t => match ρ1[i]? with
    | some (.own (.ob c fs)) => c = cn ∧ fs.length < 1000 ∧ E.nx (ρ1.set i (.own (.ob c (putT f t fs))))
    | _ => False
  | _ => False
/-- a tree is stored in a field of slot i's instance -/
theorem fld_core {P : Addr → Prop} {H H1 : Hp} {ρ : List Slot} {σ : St} {W W1 ws : List Addr} {t : T} {v : V} {fs : List (Str × T)} (oc : ObC X.K cn A fl) (st : Step W (ws ++ W1) H H1) (nd : (ws ++ W1).Nodup) (ap : ∀ b, P b → b ∉ ws ++ W1 ∧ ∃ o, H1 b = some o) (sr : SR X.K P H1 ρ σ W1) (rt : RepT X.K H1 t v ws)
    (hx : ρ[i]? = some (.own (.ob cn fs))) : ∃ b dx vs, σ[i]? = some (some (.ref b)) ∧ H1 b = some (.ins A dx vs) ∧ vs.length = fs.length ∧
      ResS X.K P fx H σ W σ (upd H1 b (.ins A dx (putF f v vs))) (ρ.set i (.own (.ob cn (putT f t fs)))) := by
  obtain ⟨v0, wu, Wr, hv, hr, sr2, m, n⟩ := sr.pull hx
  obtain ⟨b, C, dx, vs, w, e, hc, hb, hd, rf, ew⟩ := hr
  subst e ew
  rw [oc.ns] at hc
  cases hc
  have nW : W1.Nodup := nd_right nd
  have n2 := n nW
  have mw : ∀ c ∈ w, MutO H1 c := rf.mut
  have b1 : b ∈ W1 := (m b).mpr (by simp)
  have bws : b ∉ ws := fun z => nd_apart nd b z b1
  have hne : ∀ {H2 : Hp} {o}, (upd H1 b o) = H2 → ∀ c, c ≠ b → H2 c = H1 c := fun e c hc => by rw [← e, upd_ne hc]
  have nb : b ∉ dx :: w := (List.nodup_cons.mp (nd_left n2)).1
  have nbr : b ∉ Wr := fun z => nd_apart n2 b (by simp) z
  have kp : Kept [b] H1 (upd H1 b (.ins A dx (putF f v vs))) := ⟨fun c o hc hn => by rw [upd_ne (by simpa using hn)]; exact hc, fun c hc => by
    have : c = b := by simpa using hc
    subst this; exact .inr (.inr (.inl ⟨_, _, _, hb⟩))⟩
  have ndw : (w ++ ws).Nodup := by
    have h1 : w.Nodup := by have := nd_left n2; rw [List.nodup_cons, List.nodup_cons] at this; exact this.2.2
    refine List.nodup_append.mpr ⟨h1, nd_left nd, fun x hx y hy e => ?_⟩
    subst e
    exact nd_apart nd x hy ((m x).mpr (by simp [hx]))
  obtain ⟨w', rf', mf, nf⟩ := RepFt.put rt (f := f) rf ndw
  have bw' : b ∉ w' := fun z => by
    rcases List.mem_append.mp (mf b z) with q | q
    · exact nb (List.mem_cons_of_mem _ q)
    · exact bws q
  have rf2 : RepFt X.K (upd H1 b (.ins A dx (putF f v vs))) (putT f t fs) (putF f v vs) w' := RepFt.keep kp rf' fun c hc hz => by
    have : c = b := by simpa using hz
    subst this; exact bw' hc
  have db : dx ≠ b := fun e => nb (by rw [← e]; simp)
  have dw' : dx ∉ w' := fun z => by
    rcases List.mem_append.mp (mf dx z) with q | q
    · have := nd_left n2; rw [List.nodup_cons, List.nodup_cons] at this; exact this.2.1 q
    · exact nd_apart nd dx q ((m dx).mpr (by simp))
  have sr3 : SR X.K P (upd H1 b (.ins A dx (putF f v vs))) (ρ.set i .un) σ Wr := sr2.after (W0 := [b]) kp.keep kp.mu (fun c hc z => by
    have : c = b := by simpa using z
    subst this; exact (ap c hc).1 (List.mem_append_right _ b1)) (fun c hc z => by
    have : c = b := by simpa using z
    subst this; exact nbr hc)
  have sub : ∀ c, c ∈ b :: dx :: w' ++ Wr → c ∈ ws ++ W1 := fun c hc => by
    rcases List.mem_append.mp hc with z | z
    · rcases List.mem_cons.mp z with z | z
      · rw [z]; exact List.mem_append_right _ b1
      · rcases List.mem_cons.mp z with z | z
        · rw [z]; exact List.mem_append_right _ ((m dx).mpr (by simp))
        · rcases List.mem_append.mp (mf c z) with q | q
          · exact List.mem_append_right _ ((m c).mpr (by simp [q]))
          · exact List.mem_append_left _ q
    · exact List.mem_append_right _ ((m c).mpr (List.mem_append_right _ z))
  have nd3 : (b :: dx :: w' ++ Wr).Nodup := by
    refine List.nodup_append.mpr ⟨List.nodup_cons.mpr ⟨fun z => ?_, List.nodup_cons.mpr ⟨dw', nf⟩⟩, nd_right n2, fun x hx y hy e => ?_⟩
    · rcases List.mem_cons.mp z with z | z
      · exact db z.symm
      · exact bw' z
    · subst e
      rcases List.mem_cons.mp hx with z | z
      · subst z; exact nbr hy
      · rcases List.mem_cons.mp z with z | z
        · subst z; exact nd_apart n2 x (by simp) hy
        · rcases List.mem_append.mp (mf x z) with q | q
          · exact nd_apart n2 x (by simp [q]) hy
          · exact nd_apart nd x q ((m x).mpr (List.mem_append_right _ hy))
  have hi : i < (ρ.set i .un).length := by rw [List.length_set]; exact SR.lt hx
  obtain ⟨W2, sr4, m4, n4⟩ := sr3.put (ws := b :: dx :: w') (t := .ob cn (putT f t fs)) (v := .ref b) nd3 hi ⟨b, A, dx, _, w', rfl, oc.ns, upd_same, by rw [upd_ne db]; exact hd, rf2, rfl⟩
  rw [List.set_set, set_same hv] at sr4
  refine ⟨b, dx, vs, hv, hb, rf.len, W2, ⟨fun c o hc hn => ?_, fun c hc => ?_⟩, ⟨sr4, n4, fun c hc => ⟨fun z => (ap c hc).1 (sub c (m4 c z)), ?_⟩⟩, .refl⟩
  · have h1 := st.keep c o hc hn
    have : c ≠ b := fun e => by
      subst e
      rcases st.new c (List.mem_append_right _ b1) with z | z
      · exact hn z
      · rw [hc] at z; cases z
    rw [upd_ne this]; exact h1
  · exact st.new c (sub c (m4 c hc))
  · obtain ⟨o, ho⟩ := (ap c hc).2
    have : c ≠ b := fun e => (ap c hc).1 (by rw [e]; exact List.mem_append_right _ b1)
    exact ⟨o, by rw [upd_ne this]; exact ho⟩
theorem vs_fldS (oc : ObC X.K cn A fl) (hf : f ∈ fl) (ho : PE X a (tVar i)) (he : VE X e fe) (hs : swapsWith e (some (.Attribute a f pos')) pos.line X.env = pure false := by rfl) : VS X fx (.Assign [.Attribute a f pos'] e pos) (sFldS cn i f fe) :=
  PS.pwi (ps_fld ho he hs) fun D σ H ⟨P, ρ, W, E, G, q, k1, k2, k3, k4, k5⟩ => ⟨P, ρ, W, _, G, q, fun v H1 o ρ1 r1 h1 => by
    obtain ⟨ws, W1, st, nd, sr, rp⟩ := r1
    split at h1
    · rename_i t
      split at h1
      · rename_i c fs hx
        obtain ⟨rfl, hl, h1⟩ := h1
        obtain ⟨b, dx, vs, hv, hb, el, rs⟩ := fld_core (fx := fx) (f := f) oc st nd (G.apart st) sr rp hx
        exact ⟨_, hv, b, A, dx, vs, rfl, hb, oc.cls, oc.no f hf, by rw [el]; exact hl, k1 _ _ _ rs h1⟩
      · exact h1.elim
    · exact h1.elim⟩
/-- self.f op= e, of numbers -/
def sFldA (cn : Str) (i : Nat) (f : Str) (op : Int → Int → (Int → Prop) → Prop) (fe : TF) : SF := fun E ρ => match ρ[i]? with
  | some (.own (.ob c fs)) => c = cn ∧ match lookF fs f with
    | some (.d (.int x)) => fe ρ fun o ρ1 => match o with
      | .val (.d (.int y)) => op x y fun z => match ρ1[i]? with
        | some (.own (.ob c1 fs1)) => c1 = cn ∧ fs1 = fs ∧ fs.length < 1000 ∧ E.nx (ρ1.set i (.own (.ob cn (putT f (.d (.int z)) fs))))
        | _ => False
      | _ => False
    | _ => False
  | _ => False
theorem vs_fldAdd (oc : ObC X.K cn A fl) (hf : f ∈ fl) (ho : PE X a (tVar i)) (he : VE X e fe) {tpos : Pos} : VS X fx (.AugAssign (.Attribute a f tpos) .Add e pos) (sFldA cn i f (fun x y R => R (x + y)) fe) :=
  PS.pwi (ps_fldaug ho he in_add) fun D σ H ⟨P, ρ, W, E, G, q, k1, k2, k3, k4, k5⟩ => by
    unfold sFldA at q
    split at q
    rotate_left
    · exact q.elim
    rename_i c fs hx
    obtain ⟨rfl, q⟩ := q
    split at q
    rotate_left
    · exact q.elim
    rename_i x hl
    obtain ⟨b, dx, vs, w, hv, hb, rf⟩ := ob_read oc G.sr (.inl hx)
    obtain ⟨v, ws, hlk, rv, _⟩ := rf.look hl
    have ev : v = .int x := rv.1
    subst ev
    refine ⟨_, hv, b, A, dx, vs, .int x, rfl, hb, oc.cls, oc.no f hf, hlk, P, ρ, W, _, G, q, fun u H1 o ρ1 r1 h1 => ?_⟩
    obtain ⟨ws1, W1, st, nd, sr, rp⟩ := r1
    split at h1
    rotate_left
    · exact h1.elim
    rename_i y
    have eu : u = .int y := rp.1
    have ew : ws1 = [] := rp.2
    subst eu ew
    split at h1
    rotate_left
    · exact h1.elim
    rename_i c1 fs1 hx1
    obtain ⟨rfl, rfl, hl1, h1⟩ := h1
    obtain ⟨b', dx', vs', hv', hb', el, rs⟩ := fld_core (fx := fx) (f := f) (t := .d (.int (x + y))) (v := .int (x + y)) oc st nd (G.apart st) sr ⟨rfl, rfl⟩ hx1
    rw [hv] at hv'
    injection hv' with hv'
    injection hv' with hv'
    injection hv' with hv'
    subst hv'
    exact ⟨x, y, rfl, rfl, dx', vs', hb', by rw [el]; exact hl1, k1 _ _ _ rs h1⟩
/-! ### methods -/
structure CalM (Pg : Program) (w : World) (K : PySem.W.Frag) (mg : Str → Option Value) (base : Heap) (k n : Nat) (A : Addr) (m : Str) (S : FS) (dfs : List D) : Prop where
  ex : ∃ (fa : Addr) (fd : FuncData) (ps : List Str) (dV : List Value) (dvs : List V), FnOk Pg w K mg base CX0 k fa fd ps (spO K n S) ∧ Meth K A m fa ∧ Binds K fd ps dV ∧ Vals dvs dV ∧ ∀ H, RepDs K H dfs dvs
/-- o.m(..), o lent -/
def fMeth (cn : Str) (i : Nat) (m : Str) (S : FS) (ms : List Md) (dfs : List D) (fs : TAF) : TF := fun ρ Q => (∃ gs, ρ[i]? = some (.own (.ob cn gs)) ∧ lookF gs m = none) ∧ fCall S (.l :: ms) dfs (fCons (fBor i) fs) ρ Q
theorem bor_core {K : PySem.W.Frag} {σ : St} {H : Hp} {Q : VK} (h : tO K (fBor i) σ H Q) : ∃ v, σ[i]? = some (some v) ∧ Q v H := by
  obtain ⟨P, ρ, W, R, G, q, k⟩ := h
  unfold fBor at q
  split at q
  · rename_i t hx
    obtain ⟨v, ws, hv, _⟩ := G.sr.read (.inl hx)
    exact ⟨v, hv, k _ _ (.slot i) _ ⟨[], W, Step.refl _ _, by simpa using G.nd, G.sr, ⟨hv, rfl⟩⟩ q⟩
  · rename_i t hx
    obtain ⟨v, ws, hv, _⟩ := G.sr.read (.inr hx)
    exact ⟨v, hv, k _ _ (.slot i) _ ⟨[], W, Step.refl _ _, by simpa using G.nd, G.sr, ⟨hv, rfl⟩⟩ q⟩
  · exact q.elim
theorem meth_core {K : PySem.W.Frag} {m : Str} {S : FS} {ms : List Md} {ds : List D} {dvs : List V} {n : Nat} {E : XK} {fs : TAF} {σ : St} {H : Hp} {Q : VK} (oc : ObC K cn A fl) (rd : ∀ H, RepDs K H ds dvs) (hn : 1 + ms.length + ds.length = n) (h : tO K (fMeth cn i m S ms ds fs) σ H Q) :
    tMeth A m (spO K n S) dvs E (tVar i) (tAO K fs) σ H Q := by
  obtain ⟨P, ρ, W, R, G, ⟨⟨gs, hx, hl⟩, q⟩, k⟩ := h
  obtain ⟨b, dx, vs, w, hv, hb, rf⟩ := ob_read oc G.sr (.inl hx)
  have h2 : tCall (spO K n S) dvs E (tAO K (fCons (fBor i) fs)) σ H Q := call_core rd (by rw [List.length_cons]; omega) ⟨P, ρ, W, R, G, q, k⟩
  obtain ⟨v, hv2, h3⟩ := bor_core (cons_core h2)
  rw [hv] at hv2
  cases hv2
  exact ⟨_, hv, b, dx, vs, rfl, hb, rf.lookN hl, tAO_mono h3 fun us H1 h4 => h4⟩
theorem ve_meth {m : Str} {S : FS} {ms : List Md} {dfs : List D} {fs : TAF} {k j n : Nat} {apos : Pos} {pl : Sem Bool} (oc : ObC X.K cn A fl) (cl : CalM X.prog X.w X.K X.mg X.base k n A m S dfs) (hr : Room j X.A) (hk : k ≤ j) (hn : 1 + ms.length + dfs.length = n) (h : PE X a (tVar i)) (ha : VA X (e :: es) fs)
    (he : starEach (e :: es) X.env = (false, eval e X.env) :: starEach es X.env := by rfl) (hpl : (backTo pos (starEach es X.env)).any (·.1) = false := by rfl)
    (hev : eval (.Call (.Attribute a m apos) (e :: es) [] pos) X.env = (do
      let ov ← eval a X.env
      standAt apos.atName
      let (f, first) ← holding [ov] (getMethod ov m pl)
      callWith pos f first (backTo pos (starEach (e :: es) X.env)) (backToKw pos (keywordEach [] X.env))) := by rfl) : VE X (.Call (.Attribute a m apos) (e :: es) [] pos) (fMeth cn i m S ms dfs fs) := by
  obtain ⟨fa, fd, ps, dV, dvs, F, hm, hb, hd, rd⟩ := cl.ex
  exact (pe_meth (pl := pl) h oc.cls hm F (hr.mono hk) hb hd (pass0 (X := X)) ha he hpl hev).pwi fun σ H Q q => meth_core oc rd hn q
theorem ve_meth0 {m : Str} {S : FS} {dfs : List D} {k j n : Nat} {apos : Pos} {pl : Sem Bool} (oc : ObC X.K cn A fl) (cl : CalM X.prog X.w X.K X.mg X.base k n A m S dfs) (hr : Room j X.A) (hk : k ≤ j) (hn : 1 + dfs.length = n) (h : PE X a (tVar i))
    (hev : eval (.Call (.Attribute a m apos) [] [] pos) X.env = (do
      let ov ← eval a X.env
      standAt apos.atName
      let (f, first) ← holding [ov] (getMethod ov m pl)
      callWith pos f first (backTo pos (starEach [] X.env)) (backToKw pos (keywordEach [] X.env))) := by rfl) : VE X (.Call (.Attribute a m apos) [] [] pos) (fMeth cn i m S [] dfs fNil) := by
  obtain ⟨fa, fd, ps, dV, dvs, F, hm, hb, hd, rd⟩ := cl.ex
  refine (pe_meth0 (pl := pl) h oc.cls hm F (hr.mono hk) hb hd (pass0 (X := X)) hev).pwi fun σ H Q q => ?_
  obtain ⟨v, hv, b, dx, vs, e1, e2, e3, h4⟩ := meth_core (ms := []) (E := E0) oc rd (by simpa using hn) q
  refine ⟨v, hv, b, dx, vs, e1, e2, e3, ?_⟩
  obtain ⟨P, ρ, W, R, G, q2, kk⟩ := h4
  exact kk [] _ [] _ ⟨[], W, Step.refl _ _, by simpa using G.nd, G.sr, ⟨rfl, rfl⟩⟩ q2
/-! ### making -/
def fMake (cn : Str) (n : Nat) (S : FS) (fa : TAF) : TF := fun ρ Q => fa ρ fun os ρ1 => match dsO os with
  | some ds => 1 + ds.length = n ∧ S (.own (.ob cn []) :: ds.map fun d => .own (.d d)) fun t fin => t = .d .none ∧ match fin with
    | .own (.ob c gs) :: _ => c = cn ∧ Q (.val (.ob cn gs)) ρ1
    | _ => False
  | none => False
theorem make_fin {K : PySem.W.Frag} {P : Addr → Prop} {S : FS} {n : Nat} {σ : St} {H H1 : Hp} {W W1 : List Addr} {ρ1 : List Slot} {R : Opv → List Slot → Prop} {Q : VK} {E : XK} {ds : List D} {vs : List V} {x dx : Addr} (oc : ObC K cn A fl) (G1 : Good K P H1 ρ1 σ W1) (st : Step W W1 H H1) (rd : RepDs K H1 ds vs) (hl : 1 + ds.length = n)
    (hS : S (.own (.ob cn []) :: ds.map fun d => .own (.d d)) fun t fin => t = .d .none ∧ match fin with
      | .own (.ob c gs) :: _ => c = cn ∧ R (.val (.ob cn gs)) ρ1
      | _ => False)
    (k : ∀ v H' o ρ', Res K P H σ W v H' o ρ' → R o ρ' → Q v H') (hx : H1 x = none) (hd : H1 dx = none) (ne : dx ≠ x) :
    spO K n S (.ref x :: vs) (upd (upd H1 dx (.own x)) x (.ins A dx [])) (fun v H2 => v = .non ∧ Q (.ref x) H2) E := by
  have sm : Same H1 (upd (upd H1 dx (.own x)) x (.ins A dx [])) := fun b o hb => by
    have b1 : b ≠ x := fun z => by rw [z, hx] at hb; cases hb
    have b2 : b ≠ dx := fun z => by rw [z, hd] at hb; cases hb
    rw [upd_ne b1, upd_ne b2]; exact hb
  have rd2 : RepDs K (upd (upd H1 dx (.own x)) x (.ins A dx [])) ds vs := rd.keep (Kept.same sm)
  have g0 : SR K (fun _ => False) (upd (upd H1 dx (.own x)) x (.ins A dx [])) (.own (.ob cn []) :: ds.map fun d => .own (.d d)) ((V.ref x :: vs).map some) ([x, dx] ++ []) :=
    ⟨.ref x, _, [x, dx], [], rfl, ⟨x, A, dx, [], [], rfl, oc.ns, upd_same, by rw [upd_ne ne]; exact upd_same, ⟨rfl, rfl⟩, rfl⟩, sr_vals rd2, rfl⟩
  refine ⟨by rw [List.length_cons, rd.length]; omega, fun _ => False, _, [x, dx], _, ⟨by simpa using g0, by simp [Ne.symm ne], fun b hb => hb.elim⟩, hS, fun r H2 t fin w2 W2 st2 nd2 sr2 rp2 hR => ?_⟩
  obtain ⟨rfl, hR⟩ := hR
  split at hR
  rotate_left
  · exact hR.elim
  rename_i c gs rest
  obtain ⟨hcn, hR⟩ := hR
  subst hcn
  obtain ⟨v, r', w1, w3, e, rt, _, ew⟩ := sr2
  have ev : v = .ref x := by
    rw [List.map_cons] at e
    injection e with e _
    injection e with e
    exact e.symm
  subst ev ew
  have sm2 : Same H1 H2 := fun b o hb => st2.keep b o (sm b o hb) fun z => by
    rcases List.mem_cons.mp z with z | z
    · rw [z, hx] at hb; cases hb
    · have : b = dx := by simpa using z
      rw [this, hd] at hb; cases hb
  have fr : ∀ b ∈ w1, H1 b = none := fun b hb => by
    rcases st2.new b (List.mem_append_right _ (List.mem_append_left _ hb)) with z | z
    · rcases List.mem_cons.mp z with z | z
      · rw [z]; exact hx
      · have : b = dx := by simpa using z
        rw [this]; exact hd
    · cases q : H1 b with
      | none => rfl
      | some o => rw [sm b o q] at z; cases z
  have nd1 : w1.Nodup := nd_left (nd_right nd2)
  refine ⟨rp2.1, k _ _ (.val (.ob _ gs)) _ ⟨w1, W1, ⟨fun b o h hb => sm2 b o (st.keep b o h hb), fun b hb => ?_⟩, nd_mk nd1 G1.nd fun b hb hz => ?_, G1.sr.after (W0 := []) (fun b o h _ => sm2 b o h) (by simp) (by simp) (by simp), rt⟩ hR⟩
  · rcases List.mem_append.mp hb with z | z
    · by_cases hw : b ∈ W
      · exact .inl hw
      · refine .inr ?_
        cases q : H b with
        | none => rfl
        | some o => have := st.keep b o q hw; rw [fr b z] at this; cases this
    · exact st.new b z
  · obtain ⟨o, ho⟩ := (G1.mut b hz).there
    rw [fr b hb] at ho; cases ho
structure MakK (Pg : Program) (w : World) (K : PySem.W.Frag) (mg : Str → Option Value) (base : Heap) (k n : Nat) (A : Addr) (S : FS) (np : Nat) (ks : List Str) (pm : List Pm) : Prop where
  ex : ∃ (fa : Addr) (fd : FuncData) (ps : List Str) (g : List Value → List Value → List Value) (gV : List V → List V → List V), FnOk Pg w K mg base CX0 k fa fd ps (spO K n S) ∧ Mk K A fa ∧ KBn K fd ps (np + 1) ks g gV ∧
    ∀ (x : V) (vs zs : List V), vs.length = np → zs.length = ks.length → gV (x :: vs) zs = x :: pmV (vs ++ zs) pm
theorem ve_make {S : FS} {k j n np nk : Nat} {x : Str} {p : Pos} {ks : List Str} {pm : List Pm} {kws : List Keyword} {fs fk : TAF} (oc : ObC X.K cn A fl) (cl : MakK X.prog X.w X.K X.mg X.base k n A S np ks pm) (hr : Room j X.A) (hk : k + 1 ≤ j) (hg : Gl X x) (hm : X.mg x = some (.ref A)) (hnk : ks.length = nk) (ha : VA X (e :: es) fs) (hkw : VKw X kws fk)
    (hall : (backToKw pos (keywordEach kws X.env)).all (·.1.isSome) = true := by rfl) (hks : (backToKw pos (keywordEach kws X.env)).filterMap (·.1) = ks := by rfl)
    (hdb : (x == ("__debug__" : Str)) = false := by decide) (he : starEach (e :: es) X.env = (false, eval e X.env) :: starEach es X.env := by rfl)
    (hpl : ((backTo pos (starEach (e :: es) X.env)).any (·.1) || (backToKw pos (keywordEach kws X.env)).any (·.1.isNone)) = false := by rfl) : VE X (.Call (.Name x p) (e :: es) kws pos) (fMake cn n S (fKw np nk pm fs fk)) := by
  subst hnk
  obtain ⟨fa, fd, ps, g, gV, F, M, hb, hgV⟩ := cl.ex
  refine (pe_makeN M F (hr.mono hk) hg hm hb (pass0 (X := X)) ha hkw hall hks hdb he hpl).pwi fun σ H Q ⟨P, ρ, W, R, G, q, k⟩ => ?_
  have h1 : tAO X.K (fKw np ks.length pm fs fk) σ H fun vs H1 => ∃ W1 ρ1 ds, Good X.K P H1 ρ1 σ W1 ∧ Step W W1 H H1 ∧ RepDs X.K H1 ds vs ∧ 1 + ds.length = n ∧ S (.own (.ob cn []) :: ds.map fun d => .own (.d d)) fun t fin => t = .d .none ∧ match fin with
      | .own (.ob c gs) :: _ => c = cn ∧ R (.val (.ob cn gs)) ρ1
      | _ => False := by
    refine ⟨P, ρ, W, _, G, q, fun vs H1 os ρ1 r1 h1 => ?_⟩
    obtain ⟨ws, W1, G1, st, nd, rp⟩ := r1.good G
    split at h1
    · rename_i ds hds
      exact ⟨W1, ρ1, ds, G1, ⟨st.keep, fun b hb => st.new b (List.mem_append_right _ hb)⟩, dsO_rep hds rp, h1.1, h1.2⟩
    · exact h1.elim
  have h2 := lenA_core (cat_core (perm_core h1))
  refine tAO_mono h2 fun vs H1 ⟨l1, h3⟩ => tAO_mono (lenA_core h3) fun zs H2 ⟨l2, h4⟩ => ⟨l1, l2, fun x dx hx hd ne => ?_⟩
  obtain ⟨W1, ρ1, ds, G1, st, rd, hl, hS⟩ := h4
  rw [hgV _ vs zs l1 l2]
  exact make_fin oc G1 st rd hl hS k hx hd ne
theorem FnOk.makD {Pg : Program} {w : World} {K : PySem.W.Frag} {mg : Str → Option Value} {base : Heap} {k n np : Nat} {x qual : Str} {params : Arguments} {body : List Stmt} {scope : Scope} {S : FS} {fa A : Addr} {fd : FuncData} {ps ks : List Str} {pm : List Pm} {kws : List (Str × V)} (ms : List (Str × V)) (is : List Nat)
    (F : FnOk Pg w K mg base CX0 k fa fd ps (spO K n S)) (D : FunD K x qual params body scope [] kws fa fd) (M : Mk K A fa) (hk : kws ≠ []) (hms : ∀ q ∈ ms, q ∈ kws)
    (h : ∀ (D : Addr) (doc pm : Value) (an : Option Addr) (cdv ct : Value) (us mv ws : List Value), us.length = np + 1 → mv.length = ms.length → ws.length = ks.length →
      KwChain D ((ms.map (·.1)).zip mv) (bindArgs (PySem.W.fnOf x qual params body scope .none (.ref D) doc pm an cdv ct) ⟨us, ks.zip ws⟩) (ps.zip (pmI is (us ++ ws ++ mv))))
    (hpm : ∀ (x : V) (vs zs : List V), vs.length = np → zs.length = ks.length → pmI is (x :: vs ++ zs ++ ms.map (·.2)) = x :: pmV (vs ++ zs) pm) : MakK Pg w K mg base k n A S np ks pm := by
  obtain ⟨mv, hb⟩ := FunD.kbinds0 D (np + 1) ks ms (fun us mz ws => pmI is (us ++ ws ++ mz)) hk hms (fun r1 r2 r3 => pmI_vals (Vals.app (Vals.app r1 r3) r2) is) h
  exact ⟨fa, fd, ps, _, _, F, M, hb, hpm⟩
theorem FnOk.makK {Pg : Program} {w : World} {K : PySem.W.Frag} {mg : Str → Option Value} {base : Heap} {k n np : Nat} {S : FS} {fa A : Addr} {fd : FuncData} {ps ks : List Str} {pm : List Pm} {g : List Value → List Value → List Value} {gV : List V → List V → List V} (F : FnOk Pg w K mg base CX0 k fa fd ps (spO K n S)) (M : Mk K A fa) (hb : KBn K fd ps (np + 1) ks g gV)
    (h : ∀ (x : V) (vs zs : List V), vs.length = np → zs.length = ks.length → gV (x :: vs) zs = x :: pmV (vs ++ zs) pm) : MakK Pg w K mg base k n A S np ks pm := ⟨fa, fd, ps, g, gV, F, M, hb, h⟩
theorem FnOk.calM {Pg : Program} {w : World} {K : PySem.W.Frag} {mg : Str → Option Value} {base : Heap} {k n : Nat} {S : FS} {fa A : Addr} {fd : FuncData} {ps : List Str} {m : Str} (F : FnOk Pg w K mg base CX0 k fa fd ps (spO K n S)) (M : Meth K A m fa) (hb : Binds K fd ps []) : CalM Pg w K mg base k n A m S [] := ⟨fa, fd, ps, [], [], F, M, hb, .nil, fun _ => rfl⟩
end
end PW
end PwOb
section PwTi
set_option maxRecDepth 100000
/-! PwTi: deep data in a tuple: x in t, t.index(x). -/
namespace PW
open PySem PySem.Spec L2
open PyProof.Rows hiding St
section
open PySem.AutoSeq1
theorem forIn_rng {β : Type} (n : Nat) (b : β) (f : Nat → β → Sem (ForInStep β)) : (forIn [0:n] b f : Sem β) = forIn (List.range n) b f := by
  rw [Std.Legacy.Range.forIn_eq_forIn_range', List.range_eq_range']
  simp [Std.Legacy.Range.size]
theorem index_loop {prog : Program} {w : World} {A : Around} {E : Value → Shared → Prop} {s : Shared} {Q : Option PySem.Fin × Unit → Shared → Prop} (xs : Array Value) (x : Value) (e : Nat → Bool) (j : Nat) (hj : j < xs.size)
    (hq : ∀ (i : Nat) (hi : i < xs.size), SeqAt.EqAt A s xs[i] x (e i)) (he : e j = true) (hn : ∀ (m : Nat) (hm : m < xs.size), m < j → e m = false)
    (q : Q (some (.done (.ret (.int (j : Int) s.toks))), ()) { s with toks := s.toks + 1 }) : ∀ (k i : Nat), i + k = xs.size → i ≤ j →
    wpAny (model prog w) A (forIn (List.range' i k) ((none : Option PySem.Fin), ()) fun (i : Nat) __s => match xs[i]? with
      | some y => do
        let __do_lift ← eqBool y x
        if __do_lift = true then do
          let __do_lift ← retInt (i : Int)
          pure (ForInStep.done (some __do_lift, ()))
        else pure (ForInStep.yield (none, ()))
      | _ => pure (ForInStep.yield (none, ()))) Q E s := by
  intro k
  induction k with
  | zero => intro i h1 h2; omega
  | succ k ih =>
    intro i h1 h2
    have hi : i < xs.size := by omega
    rw [List.range'_succ, List.forIn_cons]
    rw [Array.getElem?_eq_getElem hi]
    refine wpAny_bind ?_
    refine wpAny_bind (hq i hi prog w E _ ?_)
    by_cases c : i = j
    · subst c
      rw [he, if_pos rfl]
      refine wpAny_bind ?_
      unfold retInt
      wp_walk
      exact q
    · rw [hn i hi (by omega), if_neg (by decide)]
      refine wpAny_pure ?_
      exact ih (i + 1) (by omega) (by omega)
theorem tup_indexAt (l : Addr) (items : Array Value) (n : Nat) (dd : Option Addr) (sl : Array (Option Value)) (x : Value) (e : Nat → Bool) (j : Nat) (hj : j < items.size) (he : e j = true) (hn : ∀ (m : Nat) (hm : m < items.size), m < j → e m = false) :
    Meets (Builtin.«tuple.index» ⟨[.ref l, x], []⟩) (fun A R s => s.heap.get? l = some { cls := .type "tuple", dict := dd, data := .seq items n, slots := sl } ∧ (∀ (i : Nat) (hi : i < items.size), SeqAt.EqAt A.in1 s items[i] x (e i)) ∧
      R (.ok (.ret (.int (j : Int) s.toks))) { s with toks := s.toks + 1 }) := by
  refine .of_wp fun prog w A R s h => ?_
  obtain ⟨h1, h2, h⟩ := h
  obtain ⟨hp, g, d, tk, os⟩ := s
  have f1 := AutoSeq1.idx_int
  have f2 := AutoSeq1.sub_tuple_tuple
  wp_walk using wpAny_loadPart' h1
  show wpAny (model prog w) A.in1 (forIn [0:min items.size items.size] ((none : Option PySem.Fin), ()) fun (i : Nat) __s => match items[i]? with
      | some y => do
        let __do_lift ← eqBool y x
        if __do_lift = true then do
          let __do_lift ← retInt (i : Int)
          pure (ForInStep.done (some __do_lift, ()))
        else pure (ForInStep.yield (none, ()))
      | _ => pure (ForInStep.yield (none, ()))) _ _ _
  rw [Nat.min_self, forIn_rng, List.range_eq_range']
  refine index_loop items x e j hj h2 he hn ?_ items.size 0 (by omega) (by omega)
  exact wpAny_pure ⟨_, rfl, h⟩
end
section
variable {X : Cx} {K : PySem.W.Frag}
theorem reads_items {pins : List (Addr × Obj)} {σ : St} {H : Hp} {s : Shared} (I : L2.Inv X pins σ H s) : ∀ {xs : List V} {ds : List PyData} {us : List Value}, DpAll X.K H xs ds → Vals xs us → us.length = ds.length ∧ ∀ (j : Nat) (h : j < us.length), ∃ d as, ds[j]? = some d ∧ Reads s.heap us[j] d as
  | _, _, _, .nil, .nil => ⟨rfl, fun j h => by simp at h⟩
  | _, _, _, .cons hd tl, .cons r rr => by
    obtain ⟨e1, e2⟩ := reads_items I tl rr
    refine ⟨by rw [List.length_cons, List.length_cons, e1], fun j h => ?_⟩
    cases j with
    | zero =>
      obtain ⟨as, q⟩ := Dp.reads I _ _ _ hd r
      exact ⟨_, as, rfl, q⟩
    | succ j =>
      obtain ⟨d, as, e, q⟩ := e2 j (by simpa using h)
      exact ⟨d, as, by simpa using e, q⟩
theorem shaped_two {x : D} (h : SeqAt.shaped x = true) : PyData.canLay0 x = true ∧ PyData.depth x ≤ 64 := by
  have h : (PyData.canLay0 x && decide (PyData.depth x ≤ 64)) = true := h
  rw [Bool.and_eq_true, decide_eq_true_eq] at h
  exact h
theorem canLay_at : ∀ {xs : List D} {j : Nat} {d : D}, PyData.canLayAll0 xs = true → xs[j]? = some d → PyData.canLay0 d = true
  | [], _, _, _, h => by simp at h
  | x :: xs, 0, d, h, e => by
    unfold PyData.canLayAll0 at h
    rw [Bool.and_eq_true] at h
    have : x = d := by simpa using e
    rw [← this]; exact h.1
  | x :: xs, j + 1, d, h, e => by
    unfold PyData.canLayAll0 at h
    rw [Bool.and_eq_true] at h
    exact canLay_at h.2 (by simpa using e)
/-- each item's likeness with x -/
theorem items_eq {pins : List (Addr × Obj)} {σ : St} {H : Hp} {s : Shared} {A : Around} (I : L2.Inv X pins σ H s) {xs : List V} {ds : List PyData} {us : List Value} {x : V} {u : Value} {d : PyData} (hd : DpAll X.K H xs ds) (r : Vals xs us) (hx : Dp X.K H x d) (rx : RelV x u) (s1 : SeqAt.shaped d = true) (s2 : PyData.canLayAll0 ds = true) (hu : A.units + 64 < cLine) :
    us.length = ds.length ∧ ∀ (j : Nat) (h : j < us.length), ∃ z, ds[j]? = some z ∧ SeqAt.EqAt A s us[j] u (PyData.eqv z d) := by
  obtain ⟨e1, e2⟩ := reads_items I hd r
  obtain ⟨bs, q2⟩ := Dp.reads I _ _ _ hx rx
  obtain ⟨c1, c2⟩ := shaped_two s1
  refine ⟨e1, fun j h => ?_⟩
  obtain ⟨z, as, ez, q⟩ := e2 j h
  exact ⟨z, ez, SeqAt.eqAt_reads z d A s us[j] u as bs q q2 (canLay_at s2 ez) c1 (by have := Nat.min_le_right (PyData.depth z) (PyData.depth d); omega)⟩
def rInTp (K : PySem.W.Frag) : R2 := fun x y H Q => ∃ d ds, Dp K H x d ∧ Dp K H y (.tuple ds) ∧ SeqAt.shaped d = true ∧ SeqAt.shaped (.list ds) = true ∧ Q (.bl (ds.any fun z => PyData.eqv z d)) H
theorem inTp_core (hu : X.A.units + 65 < cLine) {pins : List (Addr × Obj)} {s : Shared} {σ : St} {H : Hp} {x y : V} {v u : Value} {d : PyData} {ds : List PyData} {Q : Bool → Shared → Prop} {E : Value → Shared → Prop} (I : Inv X pins σ H s) (rx : RelV x v) (ry : RelV y u) (hd : Dp X.K H x d) (ht : Dp X.K H y (.tuple ds)) (s1 : SeqAt.shaped d = true) (s2 : SeqAt.shaped (.list ds) = true) (q : Q (ds.any fun z => PyData.eqv z d) s) : wpAny (model X.prog X.w) X.A (contains u v) Q E s := by
  cases ht with
  | @tup a xs ds hs hall =>
    cases ry
    obtain ⟨its, rv, ⟨⟨cls, dd, data, sl⟩, ho, hc, n, hdn⟩, hlen⟩ := I.tuple hs
    simp only at hc hdn
    subst hc hdn
    have s2' : PyData.canLayAll0 ds = true := by have := (shaped_two s2).1; simpa only [PyData.canLay0] using this
    obtain ⟨el, hq⟩ := items_eq (A := X.A.in1) I hall rv hd rx s1 s2' (by show X.A.units + 1 + 64 < cLine; omega)
    classical
    let e : Value → Bool := fun y => decide (∃ (j : Nat) (h : j < its.length), its[j] = y ∧ ∃ z, ds[j]? = some z ∧ PyData.eqv z d = true)
    have he : ∀ y, y ∈ its.toArray → SeqAt.EqAt X.A.in1 s y v (e y) := by
      intro y hy
      obtain ⟨j, hj, ej⟩ := List.getElem_of_mem (by simpa using hy : y ∈ its)
      by_cases c : ∃ (j : Nat) (h : j < its.length), its[j] = y ∧ ∃ z, ds[j]? = some z ∧ PyData.eqv z d = true
      · have : e y = true := decide_eq_true c
        rw [this]
        obtain ⟨k, hk, ek, z, ez, ev⟩ := c
        obtain ⟨z', ez', qz⟩ := hq k hk
        rw [ez] at ez'
        cases ez'
        rw [ev, ek] at qz
        exact qz
      · have : e y = false := decide_eq_false c
        rw [this]
        obtain ⟨z, ez, qz⟩ := hq j hj
        have ev : PyData.eqv z d = false := by
          cases q : PyData.eqv z d with
          | false => rfl
          | true => exact absurd ⟨j, hj, ej, z, ez, q⟩ c
        rw [ev, ej] at qz
        exact qz
    have ea : its.toArray.any e = ds.any fun z => PyData.eqv z d := by
      rw [Bool.eq_iff_iff, Array.any_eq_true', List.any_eq_true]
      constructor
      · rintro ⟨y, hy, ey⟩
        have ey : ∃ (j : Nat) (h : j < its.length), its[j] = y ∧ ∃ z, ds[j]? = some z ∧ PyData.eqv z d = true := by simpa [e] using ey
        obtain ⟨j, hj, _, z, ez, ev⟩ := ey
        exact ⟨z, List.mem_of_getElem? ez, ev⟩
      · rintro ⟨z, hz, ev⟩
        obtain ⟨j, hj⟩ := List.mem_iff_getElem?.mp hz
        have hjl : j < its.length := by rw [el]; exact (List.getElem?_eq_some_iff.mp hj).1
        exact ⟨its[j], by simp, decide_eq_true ⟨j, hjl, rfl, z, hj, ev⟩⟩
    refine wpAny_contains_slot ⟨_, ho, rfl⟩ PySem.F.slot_tuple_contains ?_
    refine call_meets PySem.F.slot_tuple_contains ⟨_, ho, rfl⟩ PySem.F.entry_tuple_contains (PySem.F.args_tuple_contains_2 _ _) (SeqAt.tuple_containsAt a its.toArray n dd sl v e) ⟨ho, he, ?_⟩
    refine wpAny_truthy_bool ?_
    rw [ea]
    exact q
theorem op_inTp (hu : X.A.units + 65 < cLine) : OpR X (compareOp .In) (rInTp X.K) := by
  rintro pins s σ H x y v u Q I rx ry ⟨d, ds, hd, ht, s1, s2, q⟩
  show wpAny _ _ (do
    let __do_lift ← contains u v
    pure (Value.bool __do_lift)) _ _ _
  exact wpAny_bind (inTp_core hu I rx ry hd ht s1 s2 (wpAny_pure ⟨.bl _, H, I, rfl, q⟩))
def rNotInTp (K : PySem.W.Frag) : R2 := fun x y H Q => ∃ d ds, Dp K H x d ∧ Dp K H y (.tuple ds) ∧ SeqAt.shaped d = true ∧ SeqAt.shaped (.list ds) = true ∧ Q (.bl (!(ds.any fun z => PyData.eqv z d))) H
theorem op_notInTp (hu : X.A.units + 65 < cLine) : OpR X (compareOp .NotIn) (rNotInTp X.K) := by
  rintro pins s σ H x y v u Q I rx ry ⟨d, ds, hd, ht, s1, s2, q⟩
  show wpAny _ _ (do
    let __do_lift ← contains u v
    pure (Value.bool (!__do_lift))) _ _ _
  exact wpAny_bind (inTp_core hu I rx ry hd ht s1 s2 (wpAny_pure ⟨.bl _, H, I, rfl, q⟩))
/-- x in a list, a tuple of data -/
def oInA : OF := fun ts R => match ts with
  | [a, b] => ∃ x ys, dOf a = some x ∧ itsOf b = some ys ∧ SeqAt.shaped x = true ∧ SeqAt.shaped (.list ys) = true ∧ R (.d (.bool (ys.any fun z => PyData.eqv z x)))
  | _ => False
theorem its_dp {K : PySem.W.Frag} {H : Hp} {t : T} {ys : List D} {v : V} {ws : List Addr} (h : itsOf t = some ys) (r : RepT K H t v ws) : Dp K H v (.list ys) ∨ Dp K H v (.tuple ys) := by
  unfold itsOf at h
  split at h
  · cases h; exact .inl (dOf_dp rfl r)
  · cases h; exact .inl r.1.dp
  · cases h; exact .inr r.1.dp
  · cases h
theorem oc_inA : OpOk K oInA fun vs H Q => ∃ x y, vs = [x, y] ∧ (rInD K x y H Q ∨ rInTp K x y H Q) := by
  intro ts vs H Q R b h k
  unfold oInA at h
  split at h
  · obtain ⟨x, ys, hx, hy, s1, s2, h⟩ := h
    obtain ⟨v, w, _, _, e, h1, h2⟩ := b2 b
    have kk := k (.bl (ys.any fun z => PyData.eqv z x)) H (.d (.bool _)) [] (Same.refl _) nofresh (by simp) ⟨rfl, rfl⟩ h
    rcases its_dp hy h2 with q | q
    · exact ⟨v, w, e, .inl ⟨x, ys, dOf_dp hx h1, q, s1, s2, kk⟩⟩
    · exact ⟨v, w, e, .inr ⟨x, ys, dOf_dp hx h1, q, s1, s2, kk⟩⟩
  · exact h.elim
/-- x not in a tuple of data -/
def oNotInT : OF := fun ts R => match ts with
  | [a, .d (.tuple ys)] => ∃ x, dOf a = some x ∧ SeqAt.shaped x = true ∧ SeqAt.shaped (.list ys) = true ∧ R (.d (.bool (!(ys.any fun z => PyData.eqv z x))))
  | _ => False
theorem oc_notInT : OpOk K oNotInT fun vs H Q => ∃ x y, vs = [x, y] ∧ rNotInTp K x y H Q := by
  intro ts vs H Q R b h k
  unfold oNotInT at h
  split at h
  · obtain ⟨x, hx, s1, s2, h⟩ := h
    obtain ⟨v, w, _, _, e, h1, h2⟩ := b2 b
    exact ⟨v, w, e, x, _, dOf_dp hx h1, h2.1.dp, s1, s2, k (.bl _) H (.d (.bool _)) [] (Same.refl _) nofresh (by simp) ⟨rfl, rfl⟩ h⟩
  · exact h.elim
theorem OpR.or {f : Value → Value → Sem Value} {a b : R2} (ha : OpR X f a) (hb : OpR X f b) : OpR X f fun x y H Q => a x y H Q ∨ b x y H Q := fun pins s σ H x y v u Q I rx ry h => h.elim (ha pins s σ H x y v u Q I rx ry) (hb pins s σ H x y v u Q I rx ry)
theorem op_inA (hu : X.A.units + 65 < cLine) : OpR X (compareOp .In) fun x y H Q => rInD X.K x y H Q ∨ rInTp X.K x y H Q := OpR.or (op_inD hu) (op_inTp hu)
/-! ### index -/
def rIxT (K : PySem.W.Frag) : V → List V → Hp → VK → Prop := fun x xs H Q => ∃ (a : Addr) (y : V) (d : PyData) (ds : List PyData) (j : Nat) (z : PyData), x = .ref a ∧ xs = [y] ∧ Dp K H (.ref a) (.tuple ds) ∧ Dp K H y d ∧ SeqAt.shaped (.list ds) = true ∧ SeqAt.shaped d = true ∧
  ds[j]? = some z ∧ PyData.eqv z d = true ∧ (∀ (m : Nat) (z' : PyData), m < j → ds[m]? = some z' → PyData.eqv z' d = false) ∧ Q (.int (j : Nat)) H
theorem mt_ixT (hu : X.A.units + 65 < cLine) : MtR X "tuple.index" (rIxT X.K) := by
  intro pins s σ H x xs v us Q I rx rxs h
  obtain ⟨a, y, d, ds, j, z, rfl, rfl, ht, hd, s2, s1, hj, hz, hn, q⟩ := h
  cases rx
  obtain ⟨u, rfl, ru⟩ := rxs.one
  cases ht with
  | @tup a xs ds hs hall =>
    obtain ⟨its, rv, ⟨⟨cls, dd, data, sl⟩, ho, hc, n, hdn⟩, hlen⟩ := I.tuple hs
    simp only at hc hdn
    subst hc hdn
    have s2' : PyData.canLayAll0 ds = true := by have := (shaped_two s2).1; simpa only [PyData.canLay0] using this
    obtain ⟨el, hq⟩ := items_eq (A := X.A.in1) I hall rv hd ru s1 s2' (by show X.A.units + 1 + 64 < cLine; omega)
    have hjl : j < its.length := by rw [el]; exact (List.getElem?_eq_some_iff.mp hj).1
    let e : Nat → Bool := fun i => match ds[i]? with
      | some z => PyData.eqv z d
      | none => false
    refine call_meets PySem.F.slot_tuple_index ⟨_, ho, rfl⟩ PySem.F.entry_tuple_index (PySem.F.args_tuple_index_2 _ _)
      (tup_indexAt a its.toArray n dd sl u e j (by simpa using hjl) (by show (match ds[j]? with | some z => PyData.eqv z d | none => false) = true; rw [hj]; exact hz) (fun m hm hmj => ?_)) ⟨ho, fun i hi => ?_, ?_⟩
    · have hm' : m < ds.length := by rw [← el]; simpa using hm
      show (match ds[m]? with | some z => PyData.eqv z d | none => false) = false
      rw [List.getElem?_eq_getElem hm']
      exact hn m _ hmj (List.getElem?_eq_getElem hm')
    · obtain ⟨z', ez, qz⟩ := hq i (by simpa using hi)
      have : e i = PyData.eqv z' d := by
        show (match ds[i]? with | some z => PyData.eqv z d | none => false) = _
        rw [ez]
      rw [this]
      simpa using qz
    · exact ⟨.int (j : Nat), H, I.tok _, ⟨s.toks, rfl⟩, q⟩
/-- the place of x in a row -/
def oIdx : OF := fun ts R => ∃ (t u : T) (xs : List D) (y : D) (j : Nat) (z : D), ts = [t, u] ∧ itsOf t = some xs ∧ dOf u = some y ∧ SeqAt.shaped (.list xs) = true ∧ SeqAt.shaped y = true ∧ xs[j]? = some z ∧ PyData.eqv z y = true ∧ (∀ m z', m < j → xs[m]? = some z' → PyData.eqv z' y = false) ∧ R (.d (.int (j : Nat)))
theorem oc_idxT : OpOk K (fun ts R => (∃ x u, ts = [T.d (.tuple x), u]) ∧ oIdx ts R) fun vs H Q => ∃ x xs, vs = x :: xs ∧ rIxT K x xs H Q := by
  rintro ts vs H Q R b ⟨⟨x, u, rfl⟩, t, u', xs, y, j, z, e, hx, hy, s1, s2, hj, hz, hn, h⟩ k
  injection e with e1 e2
  injection e2 with e2 _
  subst e1 e2
  cases hx
  obtain ⟨v, w, _, _, e, h1, h2⟩ := b2 b
  obtain ⟨⟨a, vs', e3, hs, hr⟩, _⟩ := h1
  subst e3
  exact ⟨_, _, e, a, w, y, _, j, z, rfl, rfl, .tup hs hr.dp, dOf_dp hy h2, s1, s2, hj, hz, hn, k _ _ (.d (.int _)) [] (Same.refl _) nofresh (by simp) ⟨rfl, rfl⟩ h⟩
theorem oc_idxL : OpOk K (fun ts R => (∃ t xs, ts.head? = some t ∧ seqOf t = some xs) ∧ oIdx ts R) fun vs H Q => ∃ x xs, vs = x :: xs ∧ rIndexD K x xs H Q := by
  rintro ts vs H Q R b ⟨⟨t0, xs0, e0, h0⟩, t, u, xs, y, j, z, e, hx, hy, s1, s2, hj, hz, hn, h⟩ k
  subst e
  have : t = t0 := by simpa using e0
  subst this
  obtain ⟨v, w, _, _, e, h1, h2⟩ := b2 b
  obtain ⟨p, us, e2, hs, hr⟩ := seqOf_rep h0 h1
  have hxs : xs = xs0 := by
    unfold seqOf at h0
    unfold itsOf at hx
    split at h0
    · cases h0; cases hx; rfl
    · cases h0; cases hx; rfl
    · cases h0
  subst hxs e2
  exact ⟨_, _, e, p, w, y, _, j, z, rfl, rfl, .lst hs hr.dp, dOf_dp hy h2, s1, s2, hj, hz, hn, k _ _ (.d (.int _)) [] (Same.refl _) nofresh (by simp) ⟨rfl, rfl⟩ h⟩
end
end PW
end PwTi
section PwLn
set_option maxRecDepth 100000
/-! PwLn: list comprehensions with any number of for: the body of a clause as a road to what follows it. -/
namespace L2
open PySem PySem.Spec PyProof.Rows
/-- what a clause's body does ahead of k -/
abbrev TB := St → Hp → (Hp → Prop) → Prop
structure PB (X : Cx) (body : Sem PySem.Fin → Sem PySem.Fin) (vs : List Nat) (t : TB) : Prop where
  run : ∀ (pins : List (Addr × Obj)) (s : Shared) (σ : St) (H : Hp) (Nx : Hp → Prop) (k : Sem PySem.Fin) (R : PySem.Fin → Shared → Prop) (E : Value → Shared → Prop), Inv X pins σ H s → t σ H Nx →
    (∀ s' H', Inv X pins (wipe σ vs) H' s' → Nx H' → wpAny (model X.prog X.w) X.A k R E s') → wpAny (model X.prog X.w) X.A (body k) R E s
section
variable {prog : Program} {w : World} {A : Around} {R : Result → Shared → Prop} {s : Shared} {elt tg : Expr} {gs : List Comprehension} {scope : Scope} {pos : Pos} {ip : Pos} {ifs : List Expr} {d : Nat} {it acc : Value} {env : Env} {body : Sem PySem.Fin → Sem PySem.Fin}
/-- a clause's turn -/
def turnB (ip : Pos) (tg : Expr) (ifs : List Expr) (body : Sem PySem.Fin → Sem PySem.Fin) (e : Expr) (d : Nat) (it acc : Value) (env : Env) : Sem PySem.Fin := do
  standAt ip
  match ← pyNext it with
  | none => pure (.done .next)
  | some v =>
    letOwnedTupleGo tg it v
    assign tg env v
    let mut ok := true
    for c in ifs do
      if ok then ok ← isTrue c env (eval c env)
    if ok then body (again (.compLoop e d it acc env))
    else again (.compLoop e d it acc env)
theorem compLoopB (heq : compTurn (.ListComp elt gs scope pos) d it acc env = turnB ip tg ifs body (.ListComp elt gs scope pos) d it acc env) (I : Nat → Shared → Prop)
    (turn : ∀ n s, I n s → wpAny (model prog w) A (pyNext it) (fun r s₁ => match r with
      | none => R (.ok .next) s₁
      | some v => wpAny (model prog w) A (letOwnedTupleGo tg it v) (fun _ s₁' => wpAny (model prog w) A (assign tg env v) (fun _ s₂ =>
          wpAny (model prog w) A (forIn ifs true fun c r => if r = true then do let ok ← isTrue c env (eval c env); pure (ForInStep.yield ok) else pure (ForInStep.yield r)) (fun ok s₃ =>
            if ok = true then ∀ (k : Sem PySem.Fin) (R' : PySem.Fin → Shared → Prop) (E' : Value → Shared → Prop), (∀ s', (∃ m, m < n ∧ I m s') → wpAny (model prog w) A k R' E' s') → wpAny (model prog w) A (body k) R' E' s₃
            else ∃ m, m < n ∧ I m s₃) (notedBy (model prog w) A env fun e s' => R (.error e) s') s₂) (notedBy (model prog w) A env fun e s' => R (.error e) s') s₁') (notedBy (model prog w) A env fun e s' => R (.error e) s') s₁) (notedBy (model prog w) A env fun e s' => R (.error e) s') s)
    (n : Nat) (h : I n s) :
    codeAny (model prog w) A (.compLoop (.ListComp elt gs scope pos) d it acc env) R s := by
  refine codeAny_loop rfl I (fun n s hI => ?_) n h
  show wpAny _ A ((compTurn (.ListComp elt gs scope pos) d it acc env).onRaise (fun x => do noteFrame x env; theTreesLotGoes x)) _ _ s
  refine wpAny_noted ?_
  rw [heq]
  unfold turnB
  refine wpAny_bind (wpAny_standAt (wpAny_bind (wpAny_mono (turn n s hI) (fun r s₁ h₁ => ?_) fun _ _ h' => h')))
  cases r with
  | none => exact wpAny_pure h₁
  | some v =>
    refine wpAny_bind (wpAny_mono h₁ (fun _ s₁' h₁' => ?_) fun _ _ h' => h')
    refine wpAny_bind (wpAny_mono h₁' (fun _ s₂ h₂ => wpAny_bind (wpAny_mono h₂ (fun ok s₃ h₃ => ?_) fun _ _ h' => h')) fun _ _ h' => h')
    cases ok with
    | false => exact wpAny_pure ⟨rfl, h₃⟩
    | true => exact h₃ _ _ _ fun s' hm => wpAny_pure ⟨rfl, hm⟩
/-- a later clause's start -/
theorem compStartB (hd : ((clausesOf (.ListComp elt gs scope pos))[d]?).elim false (·.is_async != 0) = false) (hp : ∃ g, (clausesOf (.ListComp elt gs scope pos))[d]? = some g)
    (h0 : codeAny (model prog w) A (.compLoop (.ListComp elt gs scope pos) d it acc env) R s)
    (h : wpAny (model prog w) A (pyIter it) (fun it' s' => codeAny (model prog w) A (.compLoop (.ListComp elt gs scope pos) d it' acc env) R s')
      (notedBy (model prog w) A env fun x s' => R (.error x) s') s) :
    codeAny (model prog w) A (.compStart (.ListComp elt gs scope pos) d it acc env) R s := by
  refine codeAny_of_tree ?_
  show wpAny _ _ ((compStart (.ListComp elt gs scope pos) d it acc env).onRaise (fun x => do noteFrame x env; standAt theWindowsPlace)) _ _ s
  refine wpAny_notedAt ?_
  obtain ⟨g, hg⟩ := hp
  unfold compStart
  rw [hd, hg]
  show wpAny _ _ (ask >>= _) _ _ s
  refine wpAny_bind (wpAny_askSetting (wpAny_ite ?_))
  split
  · first
      | exact wpAny_bind (wpAny_pure (wpAny_pure (And.intro rfl h0)))
      | exact wpAny_pure (And.intro rfl h0)
  · first
      | exact wpAny_bind (wpAny_rule (wpAny_bind (wpAny_standAt (wpAny_bind (wpAny_mono h (fun it' s' h' => wpAny_pure (And.intro rfl h')) fun _ _ x => x)))))
      | (refine wpAny_bind (wpAny_rule ?_); show wpAny _ _ (standAt _ >>= _) _ _ s; exact wpAny_bind (wpAny_standAt (wpAny_bind (wpAny_mono h (fun it' s' h' => wpAny_pure (And.intro rfl h')) fun _ _ x => x))))
end
/-- the innermost body -/
def bodyE (elt : Expr) (acc : Value) (env : Env) : Sem PySem.Fin → Sem PySem.Fin := fun k => (do let _ ← call (.builtin "list.append") [acc, ← eval elt env] : Sem Unit) >>= fun _ => k
/-- a later clause as a body -/
def bodyF (e it : Expr) (d : Nat) (acc : Value) (env : Env) : Sem PySem.Fin → Sem PySem.Fin := fun k => do
  let x ← eval it env
  standAt it.pos
  let x ← foldedSetIterable it env x
  let _ ← runOwn (.compStart e d (← holding [x] (pyIter x)) acc env) env
  k
section
variable {X : Cx} {elt tg it : Expr} {gs : List Comprehension} {scope : Scope} {pos : Pos} {ifs : List Expr} {d : Nat} {D : Addr} {te : TE} {wi : TI} {g : TG} {tt : TT} {t : TB} {vs vs' : List Nat} {ip : Pos} {body : Sem PySem.Fin → Sem PySem.Fin}
def tApp (D : Addr) (te : TE) : TB := fun σ H Nx => te σ H fun y H4 => ∃ acc, H4 D = some (.lst acc) ∧ acc.length < sizeLine ∧ Nx (upd H4 D (.lst (acc ++ [y])))
theorem pb_app (hx : X.xe = fun _ _ => False) (he : PE X elt te) : PB X (bodyE elt (.ref D) X.env) [] (tApp D te) := ⟨fun pins s σ H Nx k R E I h hk => by
  unfold bodyE
  have hr := he.run pins s σ H _ I h
  rw [hx] at hr
  refine wpAny_bind (wpAny_bind (thnF hr fun z s1 ⟨yv, H1, I1, r1, acc, hD, hz, nx⟩ => ?_))
  refine wpAny_bind (app_ok I1 hD hz r1 fun s2 I2 => ?_)
  exact wpAny_pure (hk s2 _ I2 nx)⟩
theorem wipe_keep {σ σ3 : St} {vs vs' : List Nat} (e : wipe σ3 vs = wipe σ vs) (sub : ∀ i ∈ vs', i ∈ vs) : ∀ (j : Nat) v, (wipe σ vs)[j]? = some (some v) → (wipe σ3 vs')[j]? = some (some v) := fun j v h => by
  rw [← e] at h
  obtain ⟨h1, h2⟩ := wipe_some h
  rw [wipe_out fun z => h2 (sub j z)]
  exact h1
theorem wipe_len {σ σ3 : St} {vs : List Nat} (e : wipe σ3 vs = wipe σ vs) : σ3.length = σ.length := by
  have := congrArg List.length e
  rwa [wipe_length, wipe_length] at this
theorem sub_len {σ σ3 : St} {vs : List Nat} (e : wipe σ3 vs = wipe σ vs) : (wipe σ vs).length = σ3.length := by rw [wipe_length]; exact (wipe_len e).symm
/-- what a clause asks of its turns: Fn is reached when the iterator is done -/
def Turns (J : It) (g : TG) (tt : TT) (t : TB) (vs : List Nat) (σ : St) (Fn : Hp → Prop) (W : Nat → Nat → Hp → Prop) : Prop := ∀ i m H, W i m H →
  (J.stop i H ∧ Fn H) ∨ (J.go i H ∧ ∃ Nx : Hp → Prop, (∀ H', Nx H' → ∃ m', m' < m ∧ W (i + 1) m' H') ∧ ∀ x H', J.yld i H x H' → g x (wipe σ vs) H' fun σ2 H2 => wipe σ2 vs = wipe σ vs ∧ tt σ2 H2 fun b H3 =>
    if b = true then t σ2 H3 Nx else Nx H3)
/-- a clause's loop, in the block's own context -/
theorem clause_loop {pins : List (Addr × Obj)} {σ : St} {H : Hp} {s : Shared} {fp : List Addr} {a : Addr} {tn : Nat → Heap → Prop} {J : It} {m : Nat} {W : Nat → Nat → Hp → Prop} {Fn : Hp → Prop} {R : Result → Shared → Prop}
    (hx : X.xe = fun _ _ => False) (hc : X.calm = true) (heq : compTurn (.ListComp elt gs scope pos) d (.ref a) (.ref D) X.env = turnB ip tg ifs body (.ListComp elt gs scope pos) d (.ref a) (.ref D) X.env)
    (hg : PG X tg g) (ht : PTs X ifs tt) (hb : PB X body vs' t) (sub : ∀ i ∈ vs', i ∈ vs) (T : Turn X.prog X.w X.K tg J fp a tn) (st : tn 0 s.heap)
    (fk : ∀ {τ : St} {H' : Hp} {s' : Shared}, Inv X pins τ H' s' → (∀ b ∈ fp, H' b = none) → ∀ b ∈ fp, FpOk X pins H' b) (n0 : ∀ b ∈ fp, H b = none) (I : Inv X pins (wipe σ vs) H s) (w0 : W 0 m H) (turn : Turns J g tt t vs σ Fn W)
    (hk : ∀ s' H', Inv X pins (wipe σ vs) H' s' → Fn H' → R (.ok .next) s') : codeAny (model X.prog X.w) X.A (.compLoop (.ListComp elt gs scope pos) d (.ref a) (.ref D) X.env) R s := by
  let Iv : Nat → Shared → Prop := fun k s' => ∃ j H', Inv X pins (wipe σ vs) H' s' ∧ tn j s'.heap ∧ (∀ b ∈ fp, H' b = none) ∧ W j k H'
  refine compLoopB heq Iv (fun n s1 hI => ?_) m ⟨0, H, I, st, n0, w0⟩
  obtain ⟨j, H1, I1, st1, n1, w1⟩ := hI
  rcases turn j n H1 w1 with ⟨hs, hf⟩ | ⟨hgo, Nx, dec, step⟩
  · refine thnF (T.done X rfl rfl rfl hc j pins s1 _ H1 (fun _ _ => False) I1 (fk I1 n1) st1 hs) ?_
    rintro r s2 ⟨rfl, I2⟩
    exact hk s2 H1 I2 hf
  refine thnF (T.item X rfl rfl rfl hc j pins s1 _ H1 (fun _ _ => False) I1 (fk I1 n1) st1 hgo) ?_
  rintro r s2 ⟨u, rfl, hu⟩
  refine thnF hu ?_
  rintro _ s3 ⟨x, H3, I3, rx, yx, st3, n3⟩
  -- the iterator's own objects are pinned while the turn runs
  have I4 := I3.pinned (fk I3 n3) (T.obj _ _ st3)
  have back : ∀ {τ : St} {s' : Shared} {H' : Hp}, Inv X (pins ++ pinsAt fp s3.heap) τ H' s' → (wipe σ vs).length = τ.length → (∀ (i : Nat) v, (wipe σ vs)[i]? = some (some v) → τ[i]? = some (some v)) → Nx H' → ∃ k, k < n ∧ Iv k s' := by
    intro τ s' H' Iz hl hv nx
    obtain ⟨k, hk', w'⟩ := dec H' nx
    have same : ∀ b ∈ fp, ∀ o, s3.heap.get? b = some o → s'.heap.get? b = some o ∧ H' b = none := by
      intro b hb o ho
      have := Iz.pin (b, o) (List.mem_append_right _ (List.mem_append_right _ (mem_pinsAt hb ho)))
      exact ⟨this.1, this.2.1⟩
    exact ⟨k, hk', j + 1, H', Iz.unpinned.weak hl hv, T.keep _ _ _ st3 (fun b hb o ho => (same b hb o ho).1), fun b hb => (T.obj _ _ st3 b hb).elim fun o ho => (same b hb o ho.1).2, w'⟩
  have h1 := hg.run _ s3 (wipe σ vs) H3 x u _ I4 rx (step x H3 yx)
  rw [hx] at h1
  refine thnF h1 ?_
  rintro _ s4 ⟨σ4, H4, I5, e4, q4⟩
  have h2 := ht.run _ s4 σ4 H4 _ I5 q4
  rw [hx] at h2
  refine thnF h2 ?_
  rintro b s5 ⟨H5, I6, q5⟩
  cases b
  · exact back I6 (sub_len e4) (fun i v h => by rw [← e4] at h; exact (wipe_some h).1) (by simpa using q5)
  · intro k R' E' hk'
    exact hb.run _ s5 σ4 H5 Nx k R' E' I6 (by simpa using q5) fun s6 H6 I7 nx => hk' s6 (back I7 (by rw [wipe_length σ4]; exact sub_len e4) (wipe_keep e4 sub) nx)
def tLoop (wi : TI) (g : TG) (tt : TT) (t : TB) (vs : List Nat) : TB := fun σ H Nx => wi σ H fun J H1 => ∃ W : Nat → Nat → Hp → Prop, (∃ m, W 0 m H1) ∧ Turns J g tt t vs σ Nx W
theorem pb_loop (hx : X.xe = fun _ _ => False) (hc : X.calm = true) (heq : ∀ it', compTurn (.ListComp elt gs scope pos) d it' (.ref D) X.env = turnB ip tg ifs body (.ListComp elt gs scope pos) d it' (.ref D) X.env) (hd : ((clausesOf (.ListComp elt gs scope pos))[d]?).elim false (·.is_async != 0) = false) (hp : ∃ g, (clausesOf (.ListComp elt gs scope pos))[d]? = some g)
    (hi : PI X tg it wi) (hg : PG X tg g) (ht : PTs X ifs tt) (hb : PB X body vs' t) (sub : ∀ i ∈ vs', i ∈ vs) (hs : ∀ x, foldedSetIterable it X.env x = pure x) : PB X (bodyF (.ListComp elt gs scope pos) it d (.ref D) X.env) vs (tLoop wi g tt t vs) := ⟨fun pins s σ H Nx k R E I h hk => by
  have h1 := hi.run pins s σ H _ I h
  rw [hx] at h1
  unfold bodyF
  refine wpAny_bind (thnF h1 fun xv s1 h2 => wpAny_bind (wpAny_standAt (wpAny_bind (wpAny_of_eq (hs xv) (wpAny_bind (wpAny_holding (thnF h2 ?_)))))))
  rintro _ s2 ⟨a, fp, tn, J, H2, rfl, I2, T, st2, f2, W, ⟨m, w0⟩, turn⟩
  refine wpAny_bind (wpAny_runOwn ?_)
  rw [Around.mark_none]
  have lp : codeAny (model X.prog X.w) X.A (.compLoop (.ListComp elt gs scope pos) d (.ref a) (.ref D) X.env) (fun r s' => match r with
      | .ok f => wpAny (model X.prog X.w) X.A k R E s'
      | .error _ => False) s2 :=
    clause_loop hx hc (heq _) hg ht hb sub T st2 (fun _ hn b hb => ⟨hn b hb, (f2 b hb).2⟩) (fun b hb => (f2 b hb).1) (I2.weak (wipe_length _ _) fun j v e => (wipe_some e).1) w0 turn hk
  refine codeAny_mono (compStartB hd hp lp (T.self X.A 0 _ _ _ st2 lp)) fun r s' hr => ?_
  cases r with
  | ok f => exact hr
  | error e => exact hr.elim⟩
/-- [elt for .. in .. and so on]: D the new list -/
def tLcB (wi : TI) (g : TG) (tt : TT) (t : Addr → TB) (vs : List Nat) : TE := fun σ H Q => wi σ H fun J H1 => ∀ D, H1 D = none → ∃ W : Nat → Nat → Hp → Prop, (∃ m, W 0 m (upd H1 D (.lst []))) ∧ Turns J g tt (t D) vs σ (fun H => Q (.ref D) H) W
end
/-- the first clause, from the def's own context -/
structure Clause0 (X : Cx) (elt tg iter : Expr) (ifs : List Expr) (gs : List Comprehension) (scope : Scope) (own : List (Str × Nat)) (pos : Pos) (wi : TI) (g : TG) (tt : TT) (t : Addr → TB) : Prop where
  calm : X.calm = true
  nd : X.N.Nodup
  hi : PI X tg iter wi
  ok : BlkOk X.N X.env.scope scope own
  hs : ∀ x, foldedSetIterable iter X.env x = pure x
  ex : ∃ (vs' : List Nat) (body : Value → Env → Sem PySem.Fin → Sem PySem.Fin), (∀ i ∈ vs', i ∈ own.map (·.2)) ∧
    (∀ a b e, compTurn (.ListComp elt (⟨tg, iter, ifs, 0⟩ :: gs) scope pos) 0 a b e = turnB iter.pos tg ifs (body b e) (.ListComp elt (⟨tg, iter, ifs, 0⟩ :: gs) scope pos) 0 a b e) ∧
    ∀ (s : Shared) (H : Hp) (C : Addr) (cl : List (Str × Addr)) (fp : List Addr), PG (X.blk s H scope (compEnvC scope cl C X.env) fp) tg g ∧ PTs (X.blk s H scope (compEnvC scope cl C X.env) fp) ifs tt ∧ ∀ D, PB (X.blk s H scope (compEnvC scope cl C X.env) fp) (body (.ref D) (compEnvC scope cl C X.env)) vs' (t D)
section
variable {X : Cx} {pins : List (Addr × Obj)} {s : Shared} {σ : St} {H : Hp} {Q : VK} {elt tg iter : Expr} {ifs : List Expr} {gs : List Comprehension} {scope : Scope} {own : List (Str × Nat)} {pos pos' : Pos} {wi : TI} {g : TG} {tt : TT} {t : Addr → TB} {use : Option (Value → Sem Unit)} {Qf : Value → Shared → Prop}
theorem compr_core (C0 : Clause0 X elt tg iter ifs gs scope own pos wi g tt t) (I : Inv X pins σ H s) (h : tLcB wi g tt t (own.map (·.2)) σ H Q)
    (fin : ∀ D C s' m H', Inv X pins σ H' s' → Q (.ref D) H' → s'.heap.Ns C m → FpOk X pins H' C → compPost (model X.prog X.w) X.A X.xe use Qf (.ref D) C (.ok .next) s') :
    wpAny (model X.prog X.w) X.A (comprehension (.ListComp elt (⟨tg, iter, ifs, 0⟩ :: gs) scope pos) scope X.env pos' (newList []) false (eval iter X.env) use) Qf X.xe s := by
  obtain ⟨hc, hN, hi, ok, hs, vs', body, sub, heq, blk⟩ := C0
  refine wpAny_comprehension_free (use := use) rfl hs (closure_ok fun y hy e => (ok.free y hy e).elim (fun k => I.ok.has _ (.inl k)) fun k => I.ok.has _ (.inr k)) ok.kind (fun y hy e => by rw [ok.uniq y hy, e])
    (thn (hi.run pins s σ H _ I h) fun xv s1 h1 => thn h1 ?_)
  rintro _ s2 ⟨a, fp, tn, J, H2, rfl, I2, T, st2, f2, q⟩
  refine wpAny_newObj_type (newEnv_comp ?_) (by show 0 ≤ sizeLine; decide)
  have fresh := I2.hok.fresh (Nat.le_refl _)
  obtain ⟨W, ⟨m, w0⟩, turn⟩ := q s2.heap.objs.size fresh
  -- the new list laid
  have I3 : Inv X pins σ (upd H2 s2.heap.objs.size (.lst [])) { s2 with heap := s2.heap.push { cls := .type "list", data := .seq ([] : List Value).toArray } } :=
    I2.laid (t' := s2.toks) (fun b o e => Heap.get?_push_of_some _ e) (Nat.le_refl _) ⟨Nat.zero_le _, [], 0, .nil, Heap.get?_push_size _ rfl⟩
  have f3 : ∀ b ∈ fp, FpOk X pins (upd H2 s2.heap.objs.size (.lst [])) b ∧ b < (s2.heap.push { cls := .type "list", data := .seq ([] : List Value).toArray }).objs.size := by
    intro b hb
    obtain ⟨o, ho, _⟩ := T.obj _ _ st2 b hb
    have lt := Heap.lt_size ho
    exact ⟨⟨by rw [upd_ne (Nat.ne_of_lt lt)]; exact (f2 b hb).1, (f2 b hb).2⟩, by rw [Heap.size_push]; exact Nat.lt_succ_of_lt lt⟩
  have I4 := block_start I3 ok hN f3
  revert I4 f3 I3
  generalize hs3 : ({ s2 with heap := s2.heap.push { cls := .type "list", data := .seq ([] : List Value).toArray } } : Shared) = s3
  have e3 : s3.heap = s2.heap.push { cls := .type "list", data := .seq ([] : List Value).toArray } := by rw [← hs3]
  rw [← e3]
  intro I3 f3 I4
  obtain ⟨pg, pt, pb⟩ := blk s3 (upd H2 s2.heap.objs.size (.lst [])) s3.heap.objs.size (cellsFrom (s3.heap.objs.size + 1) scope.names (cloFrom X.env.cells scope.names [])) fp
  have st4 : tn 0 (pushCells (s3.heap.push { cls := .type "dict", data := .dict #[] }) scope.names) := T.keep _ _ _ st2 fun b _ o e => pushCells_keeps _ _ _ _ (Heap.get?_push_of_some _ (by rw [e3]; exact Heap.get?_push_of_some _ e))
  have lp := clause_loop (X := X.blk s3 (upd H2 s2.heap.objs.size (.lst [])) scope (compEnvC scope (cellsFrom (s3.heap.objs.size + 1) scope.names (cloFrom X.env.cells scope.names [])) s3.heap.objs.size X.env) fp)
    (R := compPost (model X.prog X.w) X.A X.xe use Qf (.ref s2.heap.objs.size) s3.heap.objs.size) rfl hc (heq _ _ _) pg pt (pb s2.heap.objs.size) sub T st4
    (fun Iz hn b hb => ⟨hn b hb, (Iz.ok.exf b hb).1, Iz.ok.exfs b hb, .inl hb, fun x c e => (Iz.ok.exf b hb).2 x c e, fun p hp => absurd (show p ∈ ([] : List (Addr × Obj)) ++ [] from hp) (by simp)⟩)
    (fun b hb => (f3 b hb).1.1) I4 w0 turn fun s' H' I6 hq => by
      obtain ⟨mm, hn, _⟩ := I6.loc
      exact fin _ _ s' mm H' (I3.call' (ch := fp) I6.os I6.base I6.hok I6.bare fun b hb => ⟨(f3 b hb).1.2.2.2.1, (f3 b hb).1.2.1, (f3 b hb).1.2.2.2.2.1, (f3 b hb).1.2.2.2.2.2⟩) hq hn (I3.fpOk (Nat.le_refl _) I6.free)
  exact codeAny_compStart_list lp (T.self X.A 0 _ _ _ st4 lp)
/-- as a value -/
theorem pe_lcB (C0 : Clause0 X elt tg iter ifs gs scope own pos wi g tt t) : PE X (.ListComp elt (⟨tg, iter, ifs, 0⟩ :: gs) scope pos) (tLcB wi g tt t (own.map (·.2))) := ⟨fun pins s σ H Q I h => by
  rw [eval_ListComp]
  refine compr_core C0 I h fun D C s' m H' I' q hn f => ⟨m, hn, fun h2 sb => ⟨.ref D, H', I'.turned (t' := s'.toks) (fun b o hb e => (sb.2 b hb).trans e) f.1 f.2.1 f.2.2.2.1 f.2.2.2.2.1 f.2.2.2.2.2, rfl, q⟩⟩⟩
/-- name = [..] on one line, the name a local -/
theorem ps_setLcB {i : Nat} {y : Str} {py spos : Pos} (C0 : Clause0 X elt tg iter ifs gs scope own pos wi g tt t) (hy : X.N[i]? = some y) (hyl : X.env.scope.names.lookup y = some .local)
    (hsw : swapsWith (.ListComp elt (⟨tg, iter, ifs, 0⟩ :: gs) scope pos) (some (.Name y py)) spos.line X.env = pure true) : PS X (.Assign [.Name y py] (.ListComp elt (⟨tg, iter, ifs, 0⟩ :: gs) scope pos) spos) (tAsg (tLcB wi g tt t (own.map (·.2))) (gName i)) := ⟨fun pins s σ H E I h => by
  have h1 : tLcB wi g tt t (own.map (·.2)) σ H (fun x H1 => gName i x σ H1 E.nx) := h
  rw [exec_Assign_Name_used _ _ _ _ hsw]
  refine wpAny_bind (wpAny_standAt (wpAny_bind ?_))
  show wpAny _ X.A (do let _ ← comprehension (.ListComp elt (⟨tg, iter, ifs, 0⟩ :: gs) scope pos) scope X.env (firstIterPos (⟨tg, iter, ifs, 0⟩ :: gs) pos) (newList []) false (eval iter X.env) (some (assign (.Name y py) X.env))) _ _ s
  refine wpAny_bind (thn (compr_core (Qf := fun _ s' => SP X pins E .next s') C0 I h1 ?_) fun _ s' hq => wpAny_pure (wpAny_pure hq))
  intro L C s' m H' I' q hn f
  show wpAny _ _ (assign (.Name y py) X.env (.ref L)) _ _ _
  refine wpAny_assign_Name (store_ok2 (v := V.ref L) I' C0.nd hy (.inl hyl) rfl (fun s2 I2 ⟨a, sb, ha⟩ => ?_) (.inr hyl))
  have ne : C ≠ a := ha.elim (fun z => by rw [z]; exact f.2.1) fun z e => f.2.2.2.2.1 y a z e.symm
  exact ⟨m, hn.sameBut sb ne, fun h3 sb3 => ⟨_, H', I2.turned (t' := s2.toks) (fun b o hb e => (sb3.2 b hb).trans e) f.1 f.2.1 f.2.2.2.1 f.2.2.2.2.1 f.2.2.2.2.2, q⟩⟩⟩
end
end L2
end PwLn
section PwLm
set_option maxRecDepth 100000
/-! PwLm: comprehensions with two or three for, over trees. -/
namespace PW
open PySem PySem.Spec L2
open PyProof.Rows hiding St
/-! ### iterators that a list apart does not touch -/
def ResJ (K : PySem.W.Frag) (P : Addr → Prop) (H : Hp) (σ : St) (W : List Addr) (J : It) (H' : Hp) (xs : List D) (ρ' : List Slot) : Prop :=
  ∃ W', Step W W' H H' ∧ Good K P H' ρ' σ W' ∧ ∀ D, MutO H D → D ∉ W → Yld K J H' (D :: W') xs
def jO (K : PySem.W.Frag) (h : IF) : TI := fun σ H R => ∃ P ρ W Rq, Good K P H ρ σ W ∧ h ρ Rq ∧ ∀ J H' xs ρ', ResJ K P H σ W J H' xs ρ' → Rq xs ρ' → R J H'
def VJ (X : Cx) (tg it : Expr) (h : IF) : Prop := PI X tg it (jO X.K h)
theorem mut_step {W W' : List Addr} {H H' : Hp} {D : Addr} (st : Step W W' H H') (m : MutO H D) (n : D ∉ W) : MutO H' D ∧ D ∉ W' := by
  refine ⟨?_, fun z => ?_⟩
  · rcases m with ⟨xs, h⟩ | ⟨xs, h⟩ | ⟨C, dx, vs, h⟩ | ⟨a, h⟩
    · exact .inl ⟨_, st.keep _ _ h n⟩
    · exact .inr (.inl ⟨_, st.keep _ _ h n⟩)
    · exact .inr (.inr (.inl ⟨_, _, _, st.keep _ _ h n⟩))
    · exact .inr (.inr (.inr ⟨_, st.keep _ _ h n⟩))
  · rcases st.new D z with q | q
    · exact n q
    · obtain ⟨o, e⟩ := m.there
      rw [q] at e; cases e
section
variable {X : Cx} {e tg it elt : Expr} {f : TF} {fs : TAF} {pos : Pos}
theorem vj_tup (he : VE X it f) : VJ X tg it (iTup f) := (pi_tup he).pwi fun σ H R ⟨P, ρ, W, Rq, G, q, k⟩ => ⟨P, ρ, W, _, G, q, fun v H1 o ρ1 r1 h1 => by
  obtain ⟨ws, W1, G1, st, nd, rp⟩ := r1.good G
  split at h1
  · rename_i xs
    obtain ⟨⟨a, vs, e, hs, hr⟩, ew⟩ := rp
    subst e ew
    refine ⟨a, rfl, ⟨vs, hs⟩, k _ _ xs ρ1 ⟨W1, st.drop, G1, fun D m n => yld_tup hs hr fun b hb => ?_⟩ h1⟩
    rcases List.mem_cons.mp hb with z | z
    · rw [z]; exact (mut_step st.drop m n).1
    · exact G1.mut b z
  · exact h1.elim⟩
theorem vj_lst (he : VE X it f) : VJ X tg it (iLst f) := (pi_list he).pwi fun σ H R ⟨P, ρ, W, Rq, G, q, k⟩ => ⟨P, ρ, W, _, G, q, fun v H1 o ρ1 r1 h1 => by
  obtain ⟨ws, W1, G1, st, nd, rp⟩ := r1.good G
  split at h1
  · rename_i xs
    obtain ⟨a, vs, e, ha, hr, ew⟩ := rp
    subst e ew
    have na : a ∉ W1 := nd_apart nd a (by simp)
    refine ⟨a, rfl, ⟨vs, SqL.of ha⟩, k _ _ xs ρ1 ⟨W1, st.drop, G1, fun D m n => yld_list (.inl ⟨ha, fun z => ?_⟩) hr fun b hb => ?_⟩ h1⟩
    · rcases List.mem_cons.mp z with z | z
      · have := (mut_step st m n).2
        exact this (by rw [← z]; simp)
      · exact na z
    · rcases List.mem_cons.mp hb with z | z
      · rw [z]; exact (mut_step st m n).1
      · exact G1.mut b z
  · rename_i xs
    obtain ⟨⟨a, vs, e, hs, hr⟩, ew⟩ := rp
    subst e ew
    refine ⟨a, rfl, ⟨vs, hs.l⟩, k _ _ xs ρ1 ⟨W1, st.drop, G1, fun D m n => yld_list (.inr hs) hr fun b hb => ?_⟩ h1⟩
    rcases List.mem_cons.mp hb with z | z
    · rw [z]; exact (mut_step st m n).1
    · exact G1.mut b z
  · exact h1.elim⟩
theorem vj_rg1 {a : Expr} {p : Pos} (hg : Gl X "range") (hm : X.mg "range" = none) (ha : VA X [a] fs) (hs : starEach [a] X.env = [(false, eval a X.env)] := by rfl) : VJ X tg (.Call (.Name "range" p) [a] [] pos) (iRg1 fs) :=
  (pi_range1 hg hm ha hs).pwi fun σ H R ⟨P, ρ, W, Rq, G, q, k⟩ => ⟨P, ρ, W, _, G, q, fun vs H1 os ρ1 r1 h1 => by
    obtain ⟨ws, W1, G1, st, nd, rp⟩ := r1.good G
    split at h1
    · rename_i j
      obtain ⟨v, r, w1, w2, e, ⟨hv, _⟩, ⟨e2, _⟩, _⟩ := rp
      have hv : v = .int j := hv
      subst e e2 hv
      exact ⟨j, rfl, h1.1.1, h1.1.2, k _ _ _ ρ1 ⟨W1, st.drop, G1, fun _ _ _ => yld_range⟩ h1.2⟩
    · exact h1.elim⟩
end
/-! ### bodies over trees -/
abbrev BF := List D → List Slot → (List D → List Slot → Prop) → Prop
def bApp (f : TF) : BF := fun acc ρ Q => f ρ fun o ρ1 => match o with
  | .val (.d y) => acc.length < sizeLine ∧ Q (acc ++ [y]) ρ1
  | _ => False
def lpB (vs : List Nat) (g : GF) (tt : TTF) (b : BF) : List D → BF
  | [], acc, ρ, Q => Q acc ρ
  | x :: xs, acc, ρ, Q => g (.d x) ρ fun ρ1 => tt ρ1 fun z ρ2 => if z = true then b acc ρ2 fun acc' ρ3 => lpB vs g tt b xs acc' (killS vs ρ3) Q else lpB vs g tt b xs acc (killS vs ρ2) Q
def bFor (vs : List Nat) (h : IF) (g : GF) (tt : TTF) (b : BF) : BF := fun acc ρ Q => h ρ fun xs ρ1 => lpB vs g tt b xs acc (killS vs ρ1) Q
def fLcB (vs : List Nat) (h : IF) (g : GF) (tt : TTF) (b : BF) : TF := fun ρ Q => h ρ fun xs ρ1 => lpB vs g tt b xs [] (killS vs ρ1) fun ys ρ2 => Q (.val (.ls ys)) (putBack (ownsOf ρ1 vs) ρ2)
/-- the new list and the slots -/
structure AtD (K : PySem.W.Frag) (P : Addr → Prop) (D : Addr) (H : Hp) (acc : List PW.D) (ρ : List Slot) (σ : St) (W : List Addr) : Prop where
  ex : ∃ accV, H D = some (.lst accV) ∧ RepDs K H acc accV
  gd : Good K P H ρ σ W
  ap : D ∉ W
structure StepD (D : Addr) (W W' : List Addr) (H H' : Hp) : Prop where
  keep : ∀ b o, b ≠ D → H b = some o → b ∉ W → H' b = some o
  new : ∀ b ∈ W', b ∈ W ∨ H b = none
theorem Step.toD {D : Addr} {W W' : List Addr} {H H' : Hp} (s : Step W W' H H') : StepD D W W' H H' := ⟨fun b o _ h hb => s.keep b o h hb, s.new⟩
theorem StepD.trans {D : Addr} {W W1 W2 : List Addr} {H H1 H2 : Hp} (a : StepD D W W1 H H1) (b : StepD D W1 W2 H1 H2) (hD : ∃ o, H1 D = some o) : StepD D W W2 H H2 where
  keep := fun c o hd h hc => by
    refine b.keep c o hd (a.keep c o hd h hc) fun z => ?_
    rcases a.new c z with q | q
    · exact hc q
    · rw [h] at q; cases q
  new := fun c hc => by
    rcases b.new c hc with z | z
    · exact a.new c z
    · by_cases hw : c ∈ W
      · exact .inl hw
      · refine .inr ?_
        cases e : H c with
        | none => rfl
        | some o =>
          obtain ⟨o', e'⟩ := hD
          have ne : c ≠ D := fun k => by rw [k, e'] at z; cases z
          rw [a.keep c o ne e hw] at z; cases z
theorem StepD.refl (D : Addr) (W : List Addr) (H : Hp) : StepD D W W H H := ⟨fun _ _ _ h _ => h, fun _ h => .inl h⟩
theorem StepD.sub {D : Addr} {W W1 W2 : List Addr} {H H1 : Hp} (a : StepD D W W1 H H1) (m : ∀ b ∈ W2, b ∈ W1) : StepD D W W2 H H1 := ⟨a.keep, fun b hb => a.new b (m b hb)⟩
section
variable {K : PySem.W.Frag} {P : Addr → Prop} {D : Addr} {H H' : Hp} {acc : List PW.D} {ρ ρ' : List Slot} {σ σ' : St} {W W' : List Addr}
theorem AtD.step (A : AtD K P D H acc ρ σ W) (st : Step W W' H H') (G : Good K P H' ρ' σ' W') : AtD K P D H' acc ρ' σ' W' := by
  obtain ⟨accV, h1, h2⟩ := A.ex
  refine ⟨⟨accV, st.keep _ _ h1 A.ap, h2.keep ⟨st.keep, A.gd.mut⟩⟩, G, fun z => ?_⟩
  rcases st.new D z with q | q
  · exact A.ap q
  · rw [h1] at q; cases q
theorem AtD.same (A : AtD K P D H acc ρ σ W) (sm : Same H H') : AtD K P D H' acc ρ σ W := by
  obtain ⟨accV, h1, h2⟩ := A.ex
  exact ⟨⟨accV, sm _ _ h1, h2.keep (.same sm)⟩, ⟨A.gd.sr.after (W0 := []) (fun b o h _ => sm b o h) (by simp) (by simp) (by simp), A.gd.nd, fun b hb => ⟨(A.gd.ap b hb).1, let ⟨o, e⟩ := (A.gd.ap b hb).2; ⟨o, sm _ _ e⟩⟩⟩, A.ap⟩
theorem AtD.kill (A : AtD K P D H acc ρ σ W) (vs : List Nat) (hl : σ'.length = σ.length) (h : ∀ i : Nat, i ∉ vs → σ'[i]? = σ[i]?) : ∃ W2, AtD K P D H acc (killS vs ρ) σ' W2 ∧ ∀ b ∈ W2, b ∈ W := by
  obtain ⟨W2, G2, m2⟩ := A.gd.killS vs
  exact ⟨W2, ⟨A.ex, G2.swap hl h, fun z => A.ap (m2 D z)⟩, m2⟩
theorem AtD.there (A : AtD K P D H acc ρ σ W) : ∃ o, H D = some o := by
  obtain ⟨accV, h1, _⟩ := A.ex
  exact ⟨_, h1⟩
theorem AtD.mutD (A : AtD K P D H acc ρ σ W) : MutO H D := by
  obtain ⟨accV, h1, _⟩ := A.ex
  exact .inl ⟨_, h1⟩
end
theorem killS_get : ∀ (vs : List Nat) (ρ : List Slot) (i : Nat), (killS vs ρ)[i]? = if i ∈ vs ∧ i < ρ.length then some Slot.un else ρ[i]?
  | [], ρ, i => by simp [killS]
  | v :: vs, ρ, i => by
    unfold killS
    rw [killS_get vs, List.length_set, List.getElem?_set]
    by_cases h1 : i ∈ vs ∧ i < ρ.length
    · rw [if_pos h1, if_pos ⟨List.mem_cons_of_mem _ h1.1, h1.2⟩]
    · rw [if_neg h1]
      by_cases hv : v = i
      · subst hv
        rw [if_pos rfl]
        by_cases hl : v < ρ.length
        · rw [if_pos hl, if_pos ⟨by simp, hl⟩]
        · rw [if_neg hl, if_neg fun z => hl z.2, List.getElem?_eq_none (by omega)]
      · rw [if_neg hv, if_neg fun z => h1 ⟨(List.mem_cons.mp z.1).resolve_left fun e => hv e.symm, z.2⟩]
theorem killS_sub {vs vs' : List Nat} (sub : ∀ i ∈ vs', i ∈ vs) (ρ : List Slot) : killS vs (killS vs' ρ) = killS vs ρ := by
  refine List.ext_getElem? fun i => ?_
  rw [killS_get, killS_get, killS_get, killS_length]
  by_cases h : i ∈ vs ∧ i < ρ.length
  · rw [if_pos h, if_pos h]
  · rw [if_neg h, if_neg h, if_neg fun z => h ⟨sub i z.1, z.2⟩]
theorem killS_self (vs : List Nat) (ρ : List Slot) : killS vs (killS vs ρ) = killS vs ρ := killS_sub (fun _ h => h) ρ
def bO (K : PySem.W.Frag) (vs : List Nat) (D : Addr) (b : BF) : TB := fun σ H Nx => ∃ P ρ W acc R, AtD K P D H acc ρ σ W ∧ ¬ P D ∧ b acc ρ R ∧ ∀ H' acc' ρ' W', StepD D W W' H H' → AtD K P D H' acc' (killS vs ρ') (wipe σ vs) W' → R acc' ρ' → Nx H'
def VB (X : Cx) (D : Addr) (body : Sem PySem.Fin → Sem PySem.Fin) (vs : List Nat) (b : BF) : Prop := PB X body vs (bO X.K vs D b)
theorem _root_.L2.PB.pwi {X : Cx} {body : Sem PySem.Fin → Sem PySem.Fin} {vs : List Nat} {t t' : TB} (h : PB X body vs t) (i : ∀ σ H Nx, σ.length = X.N.length → t' σ H Nx → t σ H Nx) : PB X body vs t' := ⟨fun pins s σ H Nx k R E I q hk => h.run pins s σ H Nx k R E I (i σ H Nx I.len q) hk⟩
theorem wipe_off {σ σ4 : St} {vs : List Nat} {n : Nat} (hn : σ.length = n) (fx : Fx (others vs n) (wipe σ vs) σ4) : (∀ j, j ∉ vs → σ4[j]? = (wipe σ vs)[j]?) ∧ wipe σ4 vs = wipe σ vs ∧ σ4.length = σ.length := by
  have l4 : σ4.length = σ.length := by rw [fx.2, wipe_length]
  have e4 : ∀ j, j ∉ vs → σ4[j]? = (wipe σ vs)[j]? := fun j hj => by
    by_cases hjn : j < n
    · exact fx.1 j (mem_others.mpr ⟨hjn, hj⟩)
    · rw [List.getElem?_eq_none (by omega), List.getElem?_eq_none (by rw [wipe_length]; omega)]
  refine ⟨e4, List.ext_getElem? fun j => ?_, l4⟩
  by_cases hj : j ∈ vs
  · have z : ∀ (τ : St) (us : List Nat), j ∈ us → j < τ.length → (wipe τ us)[j]? = some none := by
      intro τ us
      induction us with
      | nil => intro h; simp at h
      | cons u us ih =>
        intro h hlen
        unfold wipe
        by_cases hu : u = j
        · subst hu; exact List.getElem?_set_self (by rw [wipe_length]; exact hlen)
        · rw [List.getElem?_set_ne hu]
          exact ih (by rcases List.mem_cons.mp h with q | q; exact absurd q.symm hu; exact q) hlen
    by_cases hjl : j < σ.length
    · rw [z σ4 vs hj (by omega), z σ vs hj hjl]
    · rw [List.getElem?_eq_none (by rw [wipe_length]; omega), List.getElem?_eq_none (by rw [wipe_length]; omega)]
  · rw [wipe_out hj, e4 j hj]
theorem turns_core {K : PySem.W.Frag} {P : Addr → Prop} {D : Addr} {n : Nat} {vs vs' : List Nat} {σ : St} {H1 : Hp} {W1 : List Addr} {xs acc : List PW.D} {ρ1 : List Slot} {J : It} {g : GF} {tt : TTF} {b : BF} {R : List PW.D → List Slot → Prop} {Fn : Hp → Prop}
    (hn : σ.length = n) (sub : ∀ i ∈ vs', i ∈ vs) (A1 : AtD K P D H1 acc (killS vs ρ1) (wipe σ vs) W1) (pD : ¬ P D) (yl : Yld K J H1 (D :: W1) xs) (hl : lpB vs g tt b xs acc (killS vs ρ1) R)
    (kf : ∀ H' acc' ρ' W', StepD D W1 W' H1 H' → AtD K P D H' acc' (killS vs ρ') (wipe σ vs) W' → R acc' (killS vs ρ') → Fn H') :
    ∃ Wn : Nat → Nat → Hp → Prop, (∃ m, Wn 0 m H1) ∧ Turns J (gO K (others vs n) g) (tTO K tt) (bO K vs' D b) vs σ Fn Wn := by
  refine ⟨fun i m Hc => m = xs.length - i ∧ i ≤ xs.length ∧ ∃ acc ρc Wc, StepD D W1 Wc H1 Hc ∧ AtD K P D Hc acc (killS vs ρc) (wipe σ vs) Wc ∧ lpB vs g tt b (xs.drop i) acc (killS vs ρc) R,
    ⟨xs.length, by simp, Nat.zero_le _, acc, ρ1, W1, .refl _ _ _, A1, by simpa using hl⟩, ?_⟩
  rintro i m Hc ⟨rfl, hi, acc, ρc, Wc, st, A, hl⟩
  obtain ⟨yi, ys⟩ := yl Hc fun b o h hb => st.keep b o (fun z => hb (by rw [z]; simp)) h fun z => hb (List.mem_cons_of_mem _ z)
  by_cases hlt : i < xs.length
  · obtain ⟨go, yd⟩ := yi i hlt
    refine .inr ⟨go, fun H2 => ∃ acc ρc Wc, StepD D W1 Wc H1 H2 ∧ AtD K P D H2 acc (killS vs ρc) (wipe σ vs) Wc ∧ lpB vs g tt b (xs.drop (i + 1)) acc (killS vs ρc) R,
      fun H2 hh => ⟨xs.length - (i + 1), by omega, rfl, hlt, hh⟩, fun x H3 y => ?_⟩
    obtain ⟨sm, d, hd, rd⟩ := yd x H3 y
    have A3 := A.same sm
    rw [List.drop_eq_getElem_cons hlt] at hl
    have ed : xs[i] = d := by rw [List.getElem?_eq_getElem hlt] at hd; exact Option.some.inj hd
    rw [ed] at hl
    have st3 : StepD D W1 Wc H1 H3 := ⟨fun b o hb h hw => sm b o (st.keep b o hb h hw), st.new⟩
    refine ⟨P, killS vs ρc, Wc, [], .d d, _, A3.gd.sr, by simpa using A3.gd.nd, by simpa using A3.gd.ap, ⟨rd, rfl⟩, hl, fun σ4 H4 ρ4 r4 h4 => ?_⟩
    obtain ⟨W4, st4, G4, fx4⟩ := r4
    have st4 : Step Wc W4 H3 H4 := by simpa using st4
    obtain ⟨e4, w4, l4⟩ := wipe_off hn fx4
    have A4 := A3.step st4 G4
    refine ⟨w4, P, ρ4, W4, _, G4, h4, fun z H5 ρ5 r5 h5 => ?_⟩
    obtain ⟨W5, st5, G5⟩ := r5
    have A5 := A4.step st5 G5
    have s5 : StepD D W1 W5 H1 H5 := (st3.trans st4.toD A3.there).trans st5.toD A4.there
    cases z with
    | false =>
      rw [if_neg Bool.false_ne_true] at h5 ⊢
      obtain ⟨Wy, Ay, my⟩ := A5.kill (σ' := wipe σ vs) vs (by rw [wipe_length, l4]) fun j hj => (e4 j hj).symm
      exact ⟨acc, ρ5, Wy, s5.sub my, Ay, h5⟩
    | true =>
      rw [if_pos rfl] at h5 ⊢
      refine ⟨P, ρ5, W5, acc, _, A5, pD, h5, fun H6 acc6 ρ6 W6 st6 A6 h6 => ?_⟩
      obtain ⟨Wy, Ay, my⟩ := A6.kill (σ' := wipe σ vs) vs (by rw [wipe_length, wipe_length, l4]) fun j hj => by rw [wipe_out (σ := σ4) fun z => hj (sub j z)]; exact (e4 j hj).symm
      rw [killS_sub sub] at Ay
      exact ⟨acc6, ρ6, Wy, (s5.trans st6 A5.there).sub my, Ay, h6⟩
  · have e : xs.drop i = [] := List.drop_eq_nil_of_le (by omega)
    rw [e] at hl
    exact .inl ⟨ys i (by omega), kf Hc acc ρc Wc st A hl⟩
theorem Yld.sub {K : PySem.W.Frag} {J : It} {H : Hp} {W W' : List Addr} {xs : List D} (y : Yld K J H W xs) (m : ∀ b ∈ W', b ∈ W) : Yld K J H W' xs := fun H' k => y H' fun b o h hb => k b o h fun z => hb (m b z)
section
variable {X : Cx} {elt tg it : Expr} {gs : List Comprehension} {scope : Scope} {pos ip : Pos} {ifs : List Expr} {d n : Nat} {D : Addr} {f : TF} {h : IF} {g : GF} {tt : TTF} {b : BF} {vs vs' : List Nat} {body : Sem PySem.Fin → Sem PySem.Fin}
theorem vb_app (hx : X.xe = fun _ _ => False) (he : VE X elt f) : VB X D (bodyE elt (.ref D) X.env) [] (bApp f) := (pb_app hx he).pwi fun σ H Nx _ ⟨P, ρ, W, acc, R, A, pD, hb, k⟩ => by
  refine ⟨P, ρ, W, _, A.gd, hb, fun v H1 o ρ1 r1 h1 => ?_⟩
  obtain ⟨ws, W1, G1, st1, nd1, rp1⟩ := r1.good A.gd
  split at h1
  · rename_i yv
    obtain ⟨rv, ew⟩ := rp1
    subst ew
    have st1 : Step W W1 H H1 := by simpa using st1
    have A1 := A.step st1 G1
    obtain ⟨accV, hD, rD⟩ := A1.ex
    have kD : Kept [D] H1 (upd H1 D (.lst (accV ++ [v]))) := ⟨fun b o h hb => by rw [upd_ne (by simpa using hb)]; exact h, fun b hb => by
      have : b = D := by simpa using hb
      subst this; exact .inl ⟨_, hD⟩⟩
    have hP : ∀ b, P b → b ≠ D := fun b hb e => pD (e ▸ hb)
    refine ⟨accV, hD, by rw [rD.length]; exact h1.1, k _ (acc ++ [yv]) ρ1 W1 ⟨fun b o hb h hw => by rw [upd_ne hb]; exact st1.keep b o h hw, st1.new⟩ ⟨⟨accV ++ [v], upd_same, (rD.keep kD).append (.one (rv.keep kD))⟩, ⟨G1.sr.after (W0 := [D]) kD.keep kD.mu (fun b hb => by simpa using hP b hb) (fun b hb z => ?_), G1.nd, fun b hb => ⟨(G1.ap b hb).1, let ⟨o, e⟩ := (G1.ap b hb).2; ⟨o, by rw [upd_ne (hP b hb)]; exact e⟩⟩⟩, A1.ap⟩ h1.2⟩
    have : b = D := by simpa using z
    subst this; exact A1.ap hb
  · exact h1.elim
theorem vb_for (hx : X.xe = fun _ _ => False) (hc : X.calm = true) (hn : X.N.length = n) (heq : ∀ it', compTurn (.ListComp elt gs scope pos) d it' (.ref D) X.env = turnB ip tg ifs body (.ListComp elt gs scope pos) d it' (.ref D) X.env) (hd : ((clausesOf (.ListComp elt gs scope pos))[d]?).elim false (·.is_async != 0) = false) (hp : ∃ g, (clausesOf (.ListComp elt gs scope pos))[d]? = some g)
    (hi : VJ X tg it h) (hg : VG X (others vs n) tg g) (ht : VTs X ifs tt) (hb : VB X D body vs' b) (sub : ∀ i ∈ vs', i ∈ vs) (hs : ∀ x, foldedSetIterable it X.env x = pure x) : VB X D (bodyF (.ListComp elt gs scope pos) it d (.ref D) X.env) vs (bFor vs h g tt b) :=
  (pb_loop (vs := vs) hx hc heq hd hp hi hg ht hb sub hs).pwi fun σ H Nx hlen ⟨P, ρ, W, acc, R, A, pD, q, k⟩ => by
    refine ⟨P, ρ, W, _, A.gd, q, fun J H1 xs ρ1 ⟨W1, st1, G1, yl⟩ h1 => ?_⟩
    have A1 := A.step st1 G1
    obtain ⟨W2, A2, m2⟩ := A1.kill (σ' := wipe σ vs) vs (wipe_length σ vs) fun i hi => wipe_out hi
    refine turns_core (hlen.trans hn) sub A2 pD ((yl D A.mutD A.ap).sub fun b hb => ?_) h1 fun H' acc' ρ' W' st' A' hR => k H' acc' (killS vs ρ') W' ?_ (by rw [killS_self]; exact A') hR
    · rcases List.mem_cons.mp hb with z | z
      · rw [z]; simp
      · exact List.mem_cons_of_mem _ (m2 b z)
    · exact (st1.toD.sub m2).trans st' A2.there
end
theorem lcB_red {K : PySem.W.Frag} {n : Nat} {vs vs' : List Nat} {h : IF} {g : GF} {tt : TTF} {b : BF} {σ : St} {H : Hp} {Q : VK} (hn : σ.length = n) (sub : ∀ i ∈ vs', i ∈ vs) (h0 : tO K (fLcB vs h g tt b) σ H Q) : tLcB (iO K h) (gO K (others vs n) g) (tTO K tt) (fun D => bO K vs' D b) vs σ H Q := by
  obtain ⟨P, ρ, W, R, G, q, k⟩ := h0
  refine ⟨P, ρ, W, _, G, q, fun J H1 xs ρ1 ⟨W1, st1, G1, yl⟩ h1 D hD => ?_⟩
  have pD : ¬ P D := fun hp => by
    obtain ⟨_, o, e⟩ := G1.ap D hp
    rw [hD] at e; cases e
  have sm : Same H1 (upd H1 D (.lst [])) := same_upd hD
  have dW : D ∉ W1 := fun z => by
    obtain ⟨o, e⟩ := (G1.mut D z).there
    rw [hD] at e; cases e
  have A1 : AtD K P D (upd H1 D (.lst [])) [] ρ1 σ W1 := ⟨⟨[], upd_same, rfl⟩, ⟨G1.sr.after (W0 := []) (fun b o h _ => sm b o h) (by simp) (by simp) (by simp), G1.nd, fun b hb => ⟨(G1.ap b hb).1, let ⟨o, e⟩ := (G1.ap b hb).2; ⟨o, sm _ _ e⟩⟩⟩, dW⟩
  obtain ⟨W2, A2, m2⟩ := A1.kill (σ' := wipe σ vs) vs (wipe_length σ vs) fun i hi => wipe_out hi
  refine turns_core hn sub A2 pD (fun Hc kc => yl Hc fun b o h hb => ?_) h1 fun H' acc' ρ' W' st' A' hR => ?_
  · have ne : b ≠ D := fun e => by rw [e, hD] at h; cases h
    exact kc b o (sm b o h) fun z => (List.mem_cons.mp z).elim ne fun z => hb (m2 b z)
  · obtain ⟨accV, hDc, rD⟩ := A'.ex
    have kp : ∀ b o, H1 b = some o → b ∉ W1 → H' b = some o := fun b o h hb => st'.keep b o (fun e => by rw [e, hD] at h; cases h) (sm b o h) fun z => hb (m2 b z)
    have G3 : Good K P H' (killS vs ρ') σ W' := A'.gd.swap (by rw [wipe_length]) fun j hj => (wipe_out hj).symm
    obtain ⟨W4, G4, m4⟩ := Good.put0 G1 ⟨kp, G1.mut⟩ vs G3
    have nD4 : D ∉ W4 := fun z => A'.ap (m4 D z)
    refine k _ _ (.val (.ls acc')) _ ⟨[D], W4, ⟨fun b o h hb => kp b o (st1.keep b o h hb) fun z => ?_, fun b hb => ?_⟩, nd_mk (by simp) G4.nd (by simpa using nD4), G4.sr, ⟨D, accV, rfl, hDc, rD, rfl⟩⟩ hR
    · rcases st1.new b z with z | z
      · exact hb z
      · rw [h] at z; cases z
    · have none1 : H1 b = none → b ∉ W → H b = none := fun z hw => by
        cases q : H b with
        | none => rfl
        | some o => have := st1.keep b o q hw; rw [z] at this; cases this
      rcases List.mem_append.mp hb with z | z
      · have : b = D := by simpa using z
        subst this
        exact Classical.byCases (fun hw : b ∈ W => .inl hw) fun hw => .inr (none1 hD hw)
      · rcases st'.new b (m4 b z) with z | z
        · exact st1.new b (m2 b z)
        · have z1 : H1 b = none := by
            cases q : H1 b with
            | none => rfl
            | some o => rw [sm b o q] at z; cases z
          exact Classical.byCases (fun hw : b ∈ W => .inl hw) fun hw => .inr (none1 z1 hw)
section
variable {X : Cx}
theorem clause0_2 {own : List (Str × Nat)} {scope : Scope} {pos : Pos} {n : Nat} {elt tg it tg1 it1 : Expr} {ifs ifs1 : List Expr} {h h1 : IF} {g g1 : GF} {tt tt1 : TTF} {fe : TF} {vs vs1 : List Nat}
    (hn : X.N.length = n) (hv : own.map (·.2) = vs) (hc : X.calm = true) (hN : X.N.Nodup) (hi : VI X tg it h) (ok : BlkOk X.N X.env.scope scope own)
    (u1 : ∀ j ∈ vs1, j ∈ vs)
    (hg : ∀ (s : Shared) (H : Hp) (C : Addr) (cl : List (Str × Addr)) (fp : List Addr), VG (X.blk s H scope (compEnvC scope cl C X.env) fp) (others vs n) tg g) (ht : ∀ (s : Shared) (H : Hp) (C : Addr) (cl : List (Str × Addr)) (fp : List Addr), VTs (X.blk s H scope (compEnvC scope cl C X.env) fp) ifs tt)
    (hi1 : ∀ (s : Shared) (H : Hp) (C : Addr) (cl : List (Str × Addr)) (fp : List Addr), VJ (X.blk s H scope (compEnvC scope cl C X.env) fp) tg1 it1 h1) (hg1 : ∀ (s : Shared) (H : Hp) (C : Addr) (cl : List (Str × Addr)) (fp : List Addr), VG (X.blk s H scope (compEnvC scope cl C X.env) fp) (others vs1 n) tg1 g1) (ht1 : ∀ (s : Shared) (H : Hp) (C : Addr) (cl : List (Str × Addr)) (fp : List Addr), VTs (X.blk s H scope (compEnvC scope cl C X.env) fp) ifs1 tt1)
    (he : ∀ (s : Shared) (H : Hp) (C : Addr) (cl : List (Str × Addr)) (fp : List Addr), VE (X.blk s H scope (compEnvC scope cl C X.env) fp) elt fe)
    (hs : ∀ x, foldedSetIterable it X.env x = pure x := by intro _; rfl) (hs1 : ∀ e x, foldedSetIterable it1 e x = pure x := by intro _ _; rfl) :
    Clause0 X elt tg it ifs [⟨tg1, it1, ifs1, 0⟩] scope own pos (iO X.K h) (gO X.K (others vs n) g) (tTO X.K tt) (fun D => bO X.K vs1 D (bFor vs1 h1 g1 tt1 (bApp fe))) :=
  ⟨hc, hN, hi, ok, hs, vs1, fun a e => bodyF (.ListComp elt [⟨tg, it, ifs, 0⟩, ⟨tg1, it1, ifs1, 0⟩] scope pos) it1 1 a e, by rw [hv]; exact u1, fun _ _ _ => rfl, fun s H C cl fp => ⟨hg s H C cl fp, ht s H C cl fp, fun D => (vb_for (X := (X.blk s H scope (compEnvC scope cl C X.env) fp)) (ip := it1.pos) rfl hc hn (fun _ => rfl) rfl ⟨_, rfl⟩ (hi1 s H C cl fp) (hg1 s H C cl fp) (ht1 s H C cl fp) (vb_app rfl (he s H C cl fp)) (fun _ z => by cases z) fun x => hs1 _ x)⟩⟩
theorem ve_lc2 {own : List (Str × Nat)} {scope : Scope} {pos : Pos} {n : Nat} {elt tg it tg1 it1 : Expr} {ifs ifs1 : List Expr} {h h1 : IF} {g g1 : GF} {tt tt1 : TTF} {fe : TF} {vs vs1 : List Nat}
    (hn : X.N.length = n) (hv : own.map (·.2) = vs) (hc : X.calm = true) (hN : X.N.Nodup) (hi : VI X tg it h) (ok : BlkOk X.N X.env.scope scope own)
    (u1 : ∀ j ∈ vs1, j ∈ vs)
    (hg : ∀ (s : Shared) (H : Hp) (C : Addr) (cl : List (Str × Addr)) (fp : List Addr), VG (X.blk s H scope (compEnvC scope cl C X.env) fp) (others vs n) tg g) (ht : ∀ (s : Shared) (H : Hp) (C : Addr) (cl : List (Str × Addr)) (fp : List Addr), VTs (X.blk s H scope (compEnvC scope cl C X.env) fp) ifs tt)
    (hi1 : ∀ (s : Shared) (H : Hp) (C : Addr) (cl : List (Str × Addr)) (fp : List Addr), VJ (X.blk s H scope (compEnvC scope cl C X.env) fp) tg1 it1 h1) (hg1 : ∀ (s : Shared) (H : Hp) (C : Addr) (cl : List (Str × Addr)) (fp : List Addr), VG (X.blk s H scope (compEnvC scope cl C X.env) fp) (others vs1 n) tg1 g1) (ht1 : ∀ (s : Shared) (H : Hp) (C : Addr) (cl : List (Str × Addr)) (fp : List Addr), VTs (X.blk s H scope (compEnvC scope cl C X.env) fp) ifs1 tt1)
    (he : ∀ (s : Shared) (H : Hp) (C : Addr) (cl : List (Str × Addr)) (fp : List Addr), VE (X.blk s H scope (compEnvC scope cl C X.env) fp) elt fe)
    (hs : ∀ x, foldedSetIterable it X.env x = pure x := by intro _; rfl) (hs1 : ∀ e x, foldedSetIterable it1 e x = pure x := by intro _ _; rfl) :
    VE X (.ListComp elt [⟨tg, it, ifs, 0⟩, ⟨tg1, it1, ifs1, 0⟩] scope pos) (fLcB vs h g tt (bFor vs1 h1 g1 tt1 (bApp fe))) := by
  have := pe_lcB (pos := pos) (clause0_2 (vs := vs) hn hv hc hN hi ok u1 hg ht hi1 hg1 ht1 he hs hs1)
  refine ⟨fun pins s σ H Q I q => this.run pins s σ H Q I ?_⟩
  rw [hv]
  exact lcB_red (by rw [I.len]; exact hn) u1 q
theorem vs_setLc2 {i : Nat} {y : Str} {py spos : Pos} {fx : List Nat} {own : List (Str × Nat)} {scope : Scope} {pos : Pos} {n : Nat} {elt tg it tg1 it1 : Expr} {ifs ifs1 : List Expr} {h h1 : IF} {g g1 : GF} {tt tt1 : TTF} {fe : TF} {vs vs1 : List Nat}
    (hn : X.N.length = n) (hv : own.map (·.2) = vs) (hf : i ∉ fx) (hc : X.calm = true) (hN : X.N.Nodup) (hy : X.N[i]? = some y) (hyl : X.env.scope.names.lookup y = some .local) (hsw : swapsWith (.ListComp elt [⟨tg, it, ifs, 0⟩, ⟨tg1, it1, ifs1, 0⟩] scope pos) (some (.Name y py)) spos.line X.env = pure true) (hi : VI X tg it h) (ok : BlkOk X.N X.env.scope scope own)
    (u1 : ∀ j ∈ vs1, j ∈ vs)
    (hg : ∀ (s : Shared) (H : Hp) (C : Addr) (cl : List (Str × Addr)) (fp : List Addr), VG (X.blk s H scope (compEnvC scope cl C X.env) fp) (others vs n) tg g) (ht : ∀ (s : Shared) (H : Hp) (C : Addr) (cl : List (Str × Addr)) (fp : List Addr), VTs (X.blk s H scope (compEnvC scope cl C X.env) fp) ifs tt)
    (hi1 : ∀ (s : Shared) (H : Hp) (C : Addr) (cl : List (Str × Addr)) (fp : List Addr), VJ (X.blk s H scope (compEnvC scope cl C X.env) fp) tg1 it1 h1) (hg1 : ∀ (s : Shared) (H : Hp) (C : Addr) (cl : List (Str × Addr)) (fp : List Addr), VG (X.blk s H scope (compEnvC scope cl C X.env) fp) (others vs1 n) tg1 g1) (ht1 : ∀ (s : Shared) (H : Hp) (C : Addr) (cl : List (Str × Addr)) (fp : List Addr), VTs (X.blk s H scope (compEnvC scope cl C X.env) fp) ifs1 tt1)
    (he : ∀ (s : Shared) (H : Hp) (C : Addr) (cl : List (Str × Addr)) (fp : List Addr), VE (X.blk s H scope (compEnvC scope cl C X.env) fp) elt fe)
    (hs : ∀ x, foldedSetIterable it X.env x = pure x := by intro _; rfl) (hs1 : ∀ e x, foldedSetIterable it1 e x = pure x := by intro _ _; rfl) :
    VS X fx (.Assign [.Name y py] (.ListComp elt [⟨tg, it, ifs, 0⟩, ⟨tg1, it1, ifs1, 0⟩] scope pos) spos) (sAsg (fLcB vs h g tt (bFor vs1 h1 g1 tt1 (bApp fe))) (gNm i)) := by
  have := ps_setLcB (i := i) (py := py) (spos := spos) (clause0_2 (vs := vs) hn hv hc hN hi ok u1 hg ht hi1 hg1 ht1 he hs hs1) hy hyl hsw
  refine ⟨fun pins s σ H D I q => this.run pins s σ H D I ?_⟩
  have hl : σ.length = n := by rw [I.len]; exact hn
  have q1 := asg_core q
  rw [hv]
  refine lcB_red hl u1 (tO_mono q1 fun v H1 ⟨P, ρ, W, ws, t, R, sr, nd, ap, rp, q, k⟩ => ?_)
  have hi' : i < σ.length := by rw [I.len]; exact (List.getElem?_eq_some_iff.mp hy).1
  exact k _ _ _ (put_core ap (Step.refl _ _) nd sr rp hi' hf .refl) q
theorem clause0_3 {own : List (Str × Nat)} {scope : Scope} {pos : Pos} {n : Nat} {elt tg it tg1 it1 tg2 it2 : Expr} {ifs ifs1 ifs2 : List Expr} {h h1 h2 : IF} {g g1 g2 : GF} {tt tt1 tt2 : TTF} {fe : TF} {vs vs1 vs2 : List Nat}
    (hn : X.N.length = n) (hv : own.map (·.2) = vs) (hc : X.calm = true) (hN : X.N.Nodup) (hi : VI X tg it h) (ok : BlkOk X.N X.env.scope scope own)
    (u1 : ∀ j ∈ vs1, j ∈ vs) (u2 : ∀ j ∈ vs2, j ∈ vs1)
    (hg : ∀ (s : Shared) (H : Hp) (C : Addr) (cl : List (Str × Addr)) (fp : List Addr), VG (X.blk s H scope (compEnvC scope cl C X.env) fp) (others vs n) tg g) (ht : ∀ (s : Shared) (H : Hp) (C : Addr) (cl : List (Str × Addr)) (fp : List Addr), VTs (X.blk s H scope (compEnvC scope cl C X.env) fp) ifs tt)
    (hi1 : ∀ (s : Shared) (H : Hp) (C : Addr) (cl : List (Str × Addr)) (fp : List Addr), VJ (X.blk s H scope (compEnvC scope cl C X.env) fp) tg1 it1 h1) (hg1 : ∀ (s : Shared) (H : Hp) (C : Addr) (cl : List (Str × Addr)) (fp : List Addr), VG (X.blk s H scope (compEnvC scope cl C X.env) fp) (others vs1 n) tg1 g1) (ht1 : ∀ (s : Shared) (H : Hp) (C : Addr) (cl : List (Str × Addr)) (fp : List Addr), VTs (X.blk s H scope (compEnvC scope cl C X.env) fp) ifs1 tt1)
    (hi2 : ∀ (s : Shared) (H : Hp) (C : Addr) (cl : List (Str × Addr)) (fp : List Addr), VJ (X.blk s H scope (compEnvC scope cl C X.env) fp) tg2 it2 h2) (hg2 : ∀ (s : Shared) (H : Hp) (C : Addr) (cl : List (Str × Addr)) (fp : List Addr), VG (X.blk s H scope (compEnvC scope cl C X.env) fp) (others vs2 n) tg2 g2) (ht2 : ∀ (s : Shared) (H : Hp) (C : Addr) (cl : List (Str × Addr)) (fp : List Addr), VTs (X.blk s H scope (compEnvC scope cl C X.env) fp) ifs2 tt2)
    (he : ∀ (s : Shared) (H : Hp) (C : Addr) (cl : List (Str × Addr)) (fp : List Addr), VE (X.blk s H scope (compEnvC scope cl C X.env) fp) elt fe)
    (hs : ∀ x, foldedSetIterable it X.env x = pure x := by intro _; rfl) (hs1 : ∀ e x, foldedSetIterable it1 e x = pure x := by intro _ _; rfl) (hs2 : ∀ e x, foldedSetIterable it2 e x = pure x := by intro _ _; rfl) :
    Clause0 X elt tg it ifs [⟨tg1, it1, ifs1, 0⟩, ⟨tg2, it2, ifs2, 0⟩] scope own pos (iO X.K h) (gO X.K (others vs n) g) (tTO X.K tt) (fun D => bO X.K vs1 D (bFor vs1 h1 g1 tt1 (bFor vs2 h2 g2 tt2 (bApp fe)))) :=
  ⟨hc, hN, hi, ok, hs, vs1, fun a e => bodyF (.ListComp elt [⟨tg, it, ifs, 0⟩, ⟨tg1, it1, ifs1, 0⟩, ⟨tg2, it2, ifs2, 0⟩] scope pos) it1 1 a e, by rw [hv]; exact u1, fun _ _ _ => rfl, fun s H C cl fp => ⟨hg s H C cl fp, ht s H C cl fp, fun D => (vb_for (X := (X.blk s H scope (compEnvC scope cl C X.env) fp)) (ip := it1.pos) rfl hc hn (fun _ => rfl) rfl ⟨_, rfl⟩ (hi1 s H C cl fp) (hg1 s H C cl fp) (ht1 s H C cl fp) (vb_for (X := (X.blk s H scope (compEnvC scope cl C X.env) fp)) (ip := it2.pos) rfl hc hn (fun _ => rfl) rfl ⟨_, rfl⟩ (hi2 s H C cl fp) (hg2 s H C cl fp) (ht2 s H C cl fp) (vb_app rfl (he s H C cl fp)) (fun _ z => by cases z) fun x => hs2 _ x) u2 fun x => hs1 _ x)⟩⟩
theorem ve_lc3 {own : List (Str × Nat)} {scope : Scope} {pos : Pos} {n : Nat} {elt tg it tg1 it1 tg2 it2 : Expr} {ifs ifs1 ifs2 : List Expr} {h h1 h2 : IF} {g g1 g2 : GF} {tt tt1 tt2 : TTF} {fe : TF} {vs vs1 vs2 : List Nat}
    (hn : X.N.length = n) (hv : own.map (·.2) = vs) (hc : X.calm = true) (hN : X.N.Nodup) (hi : VI X tg it h) (ok : BlkOk X.N X.env.scope scope own)
    (u1 : ∀ j ∈ vs1, j ∈ vs) (u2 : ∀ j ∈ vs2, j ∈ vs1)
    (hg : ∀ (s : Shared) (H : Hp) (C : Addr) (cl : List (Str × Addr)) (fp : List Addr), VG (X.blk s H scope (compEnvC scope cl C X.env) fp) (others vs n) tg g) (ht : ∀ (s : Shared) (H : Hp) (C : Addr) (cl : List (Str × Addr)) (fp : List Addr), VTs (X.blk s H scope (compEnvC scope cl C X.env) fp) ifs tt)
    (hi1 : ∀ (s : Shared) (H : Hp) (C : Addr) (cl : List (Str × Addr)) (fp : List Addr), VJ (X.blk s H scope (compEnvC scope cl C X.env) fp) tg1 it1 h1) (hg1 : ∀ (s : Shared) (H : Hp) (C : Addr) (cl : List (Str × Addr)) (fp : List Addr), VG (X.blk s H scope (compEnvC scope cl C X.env) fp) (others vs1 n) tg1 g1) (ht1 : ∀ (s : Shared) (H : Hp) (C : Addr) (cl : List (Str × Addr)) (fp : List Addr), VTs (X.blk s H scope (compEnvC scope cl C X.env) fp) ifs1 tt1)
    (hi2 : ∀ (s : Shared) (H : Hp) (C : Addr) (cl : List (Str × Addr)) (fp : List Addr), VJ (X.blk s H scope (compEnvC scope cl C X.env) fp) tg2 it2 h2) (hg2 : ∀ (s : Shared) (H : Hp) (C : Addr) (cl : List (Str × Addr)) (fp : List Addr), VG (X.blk s H scope (compEnvC scope cl C X.env) fp) (others vs2 n) tg2 g2) (ht2 : ∀ (s : Shared) (H : Hp) (C : Addr) (cl : List (Str × Addr)) (fp : List Addr), VTs (X.blk s H scope (compEnvC scope cl C X.env) fp) ifs2 tt2)
    (he : ∀ (s : Shared) (H : Hp) (C : Addr) (cl : List (Str × Addr)) (fp : List Addr), VE (X.blk s H scope (compEnvC scope cl C X.env) fp) elt fe)
    (hs : ∀ x, foldedSetIterable it X.env x = pure x := by intro _; rfl) (hs1 : ∀ e x, foldedSetIterable it1 e x = pure x := by intro _ _; rfl) (hs2 : ∀ e x, foldedSetIterable it2 e x = pure x := by intro _ _; rfl) :
    VE X (.ListComp elt [⟨tg, it, ifs, 0⟩, ⟨tg1, it1, ifs1, 0⟩, ⟨tg2, it2, ifs2, 0⟩] scope pos) (fLcB vs h g tt (bFor vs1 h1 g1 tt1 (bFor vs2 h2 g2 tt2 (bApp fe)))) := by
  have := pe_lcB (pos := pos) (clause0_3 (vs := vs) hn hv hc hN hi ok u1 u2 hg ht hi1 hg1 ht1 hi2 hg2 ht2 he hs hs1 hs2)
  refine ⟨fun pins s σ H Q I q => this.run pins s σ H Q I ?_⟩
  rw [hv]
  exact lcB_red (by rw [I.len]; exact hn) u1 q
theorem vs_setLc3 {i : Nat} {y : Str} {py spos : Pos} {fx : List Nat} {own : List (Str × Nat)} {scope : Scope} {pos : Pos} {n : Nat} {elt tg it tg1 it1 tg2 it2 : Expr} {ifs ifs1 ifs2 : List Expr} {h h1 h2 : IF} {g g1 g2 : GF} {tt tt1 tt2 : TTF} {fe : TF} {vs vs1 vs2 : List Nat}
    (hn : X.N.length = n) (hv : own.map (·.2) = vs) (hf : i ∉ fx) (hc : X.calm = true) (hN : X.N.Nodup) (hy : X.N[i]? = some y) (hyl : X.env.scope.names.lookup y = some .local) (hsw : swapsWith (.ListComp elt [⟨tg, it, ifs, 0⟩, ⟨tg1, it1, ifs1, 0⟩, ⟨tg2, it2, ifs2, 0⟩] scope pos) (some (.Name y py)) spos.line X.env = pure true) (hi : VI X tg it h) (ok : BlkOk X.N X.env.scope scope own)
    (u1 : ∀ j ∈ vs1, j ∈ vs) (u2 : ∀ j ∈ vs2, j ∈ vs1)
    (hg : ∀ (s : Shared) (H : Hp) (C : Addr) (cl : List (Str × Addr)) (fp : List Addr), VG (X.blk s H scope (compEnvC scope cl C X.env) fp) (others vs n) tg g) (ht : ∀ (s : Shared) (H : Hp) (C : Addr) (cl : List (Str × Addr)) (fp : List Addr), VTs (X.blk s H scope (compEnvC scope cl C X.env) fp) ifs tt)
    (hi1 : ∀ (s : Shared) (H : Hp) (C : Addr) (cl : List (Str × Addr)) (fp : List Addr), VJ (X.blk s H scope (compEnvC scope cl C X.env) fp) tg1 it1 h1) (hg1 : ∀ (s : Shared) (H : Hp) (C : Addr) (cl : List (Str × Addr)) (fp : List Addr), VG (X.blk s H scope (compEnvC scope cl C X.env) fp) (others vs1 n) tg1 g1) (ht1 : ∀ (s : Shared) (H : Hp) (C : Addr) (cl : List (Str × Addr)) (fp : List Addr), VTs (X.blk s H scope (compEnvC scope cl C X.env) fp) ifs1 tt1)
    (hi2 : ∀ (s : Shared) (H : Hp) (C : Addr) (cl : List (Str × Addr)) (fp : List Addr), VJ (X.blk s H scope (compEnvC scope cl C X.env) fp) tg2 it2 h2) (hg2 : ∀ (s : Shared) (H : Hp) (C : Addr) (cl : List (Str × Addr)) (fp : List Addr), VG (X.blk s H scope (compEnvC scope cl C X.env) fp) (others vs2 n) tg2 g2) (ht2 : ∀ (s : Shared) (H : Hp) (C : Addr) (cl : List (Str × Addr)) (fp : List Addr), VTs (X.blk s H scope (compEnvC scope cl C X.env) fp) ifs2 tt2)
    (he : ∀ (s : Shared) (H : Hp) (C : Addr) (cl : List (Str × Addr)) (fp : List Addr), VE (X.blk s H scope (compEnvC scope cl C X.env) fp) elt fe)
    (hs : ∀ x, foldedSetIterable it X.env x = pure x := by intro _; rfl) (hs1 : ∀ e x, foldedSetIterable it1 e x = pure x := by intro _ _; rfl) (hs2 : ∀ e x, foldedSetIterable it2 e x = pure x := by intro _ _; rfl) :
    VS X fx (.Assign [.Name y py] (.ListComp elt [⟨tg, it, ifs, 0⟩, ⟨tg1, it1, ifs1, 0⟩, ⟨tg2, it2, ifs2, 0⟩] scope pos) spos) (sAsg (fLcB vs h g tt (bFor vs1 h1 g1 tt1 (bFor vs2 h2 g2 tt2 (bApp fe)))) (gNm i)) := by
  have := ps_setLcB (i := i) (py := py) (spos := spos) (clause0_3 (vs := vs) hn hv hc hN hi ok u1 u2 hg ht hi1 hg1 ht1 hi2 hg2 ht2 he hs hs1 hs2) hy hyl hsw
  refine ⟨fun pins s σ H D I q => this.run pins s σ H D I ?_⟩
  have hl : σ.length = n := by rw [I.len]; exact hn
  have q1 := asg_core q
  rw [hv]
  refine lcB_red hl u1 (tO_mono q1 fun v H1 ⟨P, ρ, W, ws, t, R, sr, nd, ap, rp, q, k⟩ => ?_)
  have hi' : i < σ.length := by rw [I.len]; exact (List.getElem?_eq_some_iff.mp hy).1
  exact k _ _ _ (put_core ap (Step.refl _ _) nd sr rp hi' hf .refl) q
end
end PW
end PwLm
section PwSd
set_option maxRecDepth 100000
/-! PwSd: sorted(xs) of things that are data of one make (numbers, texts, tuples in tuples): the kit's merge sort by its order of data. -/
namespace PW
open PySem PySem.Spec L2
open PyProof.Rows hiding St
open PySem.W (AllAlike Sortable dataLe EachIs)
def rSortD (K : PySem.W.Frag) : List V → Hp → VK → Prop := fun vs H Q => ∃ (a : Addr) (xs : List V) (ds : List D), vs = [V.ref a] ∧ SqL K H a xs ∧ RepDs K H ds xs ∧ AllAlike ds ∧ Sortable ds ∧ (∀ d ∈ ds, d.depth ≤ 60) ∧
  ∀ ys p, RepDs K H (ds.mergeSort (dataLe false id)) ys → H p = none → Q (.ref p) (upd H p (.lst ys))
/-- a value that stands for data -/
def StdD (K : PySem.W.Frag) (H : Hp) (u : Value) (d : D) : Prop := ∃ x, RelV x u ∧ RepD K H d x
theorem each_std {K : PySem.W.Frag} {H : Hp} : ∀ {ds : List D} {xs : List V} {us : List Value}, RepDs K H ds xs → Vals xs us → EachIs (StdD K H) us ds
  | [], _, _, h, r => by have h : _ = [] := h; subst h; cases r; exact .nil
  | _ :: _, _, _, ⟨v, t, e, h, hs⟩, r => by
    subst e
    cases r with
    | cons r1 r2 => exact .cons ⟨v, r1, h⟩ (each_std hs r2)
theorem std_each {K : PySem.W.Frag} {H : Hp} : ∀ {ds : List D} {us : List Value}, EachIs (StdD K H) us ds → ∃ xs, RepDs K H ds xs ∧ Vals xs us
  | _, _, .nil => ⟨[], rfl, .nil⟩
  | _, _, .cons ⟨v, r, h⟩ t => by
    obtain ⟨xs, h1, h2⟩ := std_each t
    exact ⟨v :: xs, ⟨v, xs, rfl, h, h1⟩, .cons r h2⟩
section
variable {X : Cx}
theorem call_sortedDD (hu : X.A.units + 64 < cLine) : CallR X (.builtin "sorted") (rSortD X.K) := by
  intro pins s σ H vs us Q I r h
  obtain ⟨a, xs, ds, rfl, hs, hr, hal, hk, hd, q⟩ := h
  obtain ⟨its, rv, hl, hz⟩ := I.list hs
  obtain ⟨u, rfl, ru⟩ := vals1 r
  obtain rfl : u = Value.ref a := ru
  have e1 : EachIs (StdD X.K H) its ds := each_std hr rv
  have e2 : EachIs (fun v d => ∃ as, Reads s.heap v (id d) as) its ds := e1.mono fun v d ⟨x, rx, hx⟩ => Dp.reads I d x v hx.dp rx
  have el : its.length = ds.length := e1.length
  have eo : its.length ≤ sizeLine := by rw [← rv.length]; exact hz
  refine PySem.W.sorted_data (enc := id) (R := StdD X.K H) hl.isList e1 e2 (by simpa using hal) (by simpa using hk) (by rw [← el]; exact eo) (fun b hb => ?_) fun out ho eout => ?_
  · have := hd b hb
    show X.A.units + 2 + (id b).depth < cLine
    simp only [id]
    omega
  · obtain ⟨ys, h1, h2⟩ := std_each eout
    obtain ⟨n, hn⟩ := sortedAll_at s.heap its out.toArray
    refine ⟨.ref (s.heap.objs.size + 1), upd H (s.heap.objs.size + 1) (.lst ys), I.laid (t' := s.toks) (fun b o e => sortedAll_old e) (Nat.le_succ _) ⟨?_, out, n, h2, hn⟩, rfl, q ys _ h1 (I.hok.fresh (Nat.le_succ _))⟩
    rw [h2.length, ho, ← el]; exact eo
end
/-! ### over trees -/
def oSortD : OF := fun ts R => ∃ (t : T) (ds : List D), ts = [t] ∧ seqOf t = some ds ∧ AllAlike ds ∧ Sortable ds ∧ (∀ d ∈ ds, d.depth ≤ 60) ∧ R (.ls (ds.mergeSort (dataLe false id)))
theorem oc_sortD {K : PySem.W.Frag} : OpOk K oSortD (rSortD K) := by
  rintro _ vs H Q R b ⟨t, ds, rfl, ht, h1, h2, h3, h⟩ k
  obtain ⟨v, _, e, hv⟩ := b1 b
  obtain ⟨p, us, e2, hs, hr⟩ := seqOf_rep ht hv
  subst e2
  refine ⟨p, us, ds, e, hs, hr, h1, h2, h3, fun ys l hy hl => ?_⟩
  refine k _ _ (.ls (ds.mergeSort (dataLe false id))) [l] (same_upd hl) (fun b hb => ?_) (by simp) ⟨l, _, rfl, upd_same, hy.keep (.same (same_upd hl)), rfl⟩ h
  have : b = l := by simpa using hb
  subst this; exact hl
end PW
end PwSd
section PwOc
set_option maxRecDepth 100000
/-! PwOc: bits that classes ask: a method's own statement, x or y by truth. -/
namespace PW
open PySem PySem.Spec L2
open PyProof.Rows hiding St
/-- the j-th statement of a class -/
def mthS (s : Stmt) (j : Nat) : Stmt := (clsBody s).getD j (.Pass ⟨0, 0, 0, 0⟩)
/-- x or y, x None or a tuple -/
def fOrT (f g : TF) : TF := fun ρ Q => f ρ fun o ρ1 => match o with
  | .val (.d .none) => g ρ1 Q
  | .val (.d (.tuple [])) => g ρ1 Q
  | .val (.d (.tuple (x :: xs))) => Q (.val (.d (.tuple (x :: xs)))) ρ1
  | _ => False
section
variable {X : Cx} {a b : Expr} {es : List Expr} {pos : Pos} {fa fb : TF}
theorem ve_orT (ha : VE X a fa) (hb : VE X (.BoolOp .Or (b :: es) pos) fb) : VE X (.BoolOp .Or (a :: b :: es) pos) (fOrT fa fb) := (pe_orT ha hb).pwi fun σ H Q ⟨P, ρ, W, R, G, q, k⟩ => ⟨P, ρ, W, _, G, q, fun v H1 o ρ1 r1 h1 => by
  obtain ⟨ws, W1, G1, st, nd, rp⟩ := r1.good G
  split at h1
  · have ev : v = .non := rp.1
    subst ev
    exact ⟨false, rfl, by rw [if_neg Bool.false_ne_true]; exact go_on st.drop G1 k h1⟩
  · obtain ⟨⟨t, vs, e, hs, hr⟩, ew⟩ := rp
    have hr : vs = [] := hr
    subst e hr
    exact ⟨false, .inr (.inl ⟨[], hs, rfl⟩), by rw [if_neg Bool.false_ne_true]; exact go_on st.drop G1 k h1⟩
  · rename_i x xs
    obtain ⟨⟨t, vs, e, hs, hr⟩, ew⟩ := rp
    obtain ⟨v1, rr, e2, h2, h3⟩ := hr
    subst e e2
    refine ⟨true, ?_, ?_⟩
    · exact .inr (.inl ⟨_, hs, rfl⟩)
    · rw [if_pos rfl]
      exact k _ _ (.val (.d (.tuple (x :: xs)))) _ ⟨[], W1, by simpa using st.drop, by simpa using G1.nd, G1.sr, ⟨⟨t, _, rfl, hs, v1, rr, rfl, h2, h3⟩, rfl⟩⟩ h1
  · exact h1.elim⟩
end
end PW
namespace PW
open PySem PySem.Spec L2
theorem gl_str {X : Cx} {x : Str} {z : Str} (h : ∃ t, X.mg x = some (.str z t)) : ∃ (v : V) (u : Value), X.mg x = some u ∧ RelV v u ∧ ∀ H, RepD X.K H (.str z) v := by
  obtain ⟨t, e⟩ := h
  exact ⟨.str z, _, e, ⟨t, rfl⟩, fun _ => rfl⟩
end PW
namespace PW
open PySem PySem.Spec L2
open PyProof.Rows hiding St
/-! ### x *= n -/
def aMul : Int → Int → (Int → Prop) → Prop := fun i j R => CMul i j ∧ R (i * j)
def ipMul : TIp := fun x y H Q => ∃ i j, x = .int i ∧ y = .int j ∧ CMul i j ∧ Q (.int (i * j)) H
theorem ip_mul {X : Cx} : PIp X .Mult ipMul := by
  rintro pins s σ H x y v u Q I r1 r2 ⟨i, j, rfl, rfl, hc, q⟩
  obtain ⟨t, rfl⟩ := r1
  obtain ⟨t', rfl⟩ := r2
  exact imul_int ⟨.int _, H, I.tok _, ⟨_, rfl⟩, q⟩ hc.ok
theorem oka_mul (j k : Int) (H : Hp) (Q : VK) (R : Int → Prop) (h : aMul j k R) (g : ∀ z, R z → Q (.int z) H) : ipMul (.int j) (.int k) H Q := ⟨j, k, rfl, rfl, h.1, g _ h.2⟩
/-! ### a text in a text -/
def occ1 (x y : Str) : Bool := !(Builtin.Str.occurrences x y 0 x.length 1).isEmpty
def oInS : OF := fun ts R => match ts with
  | [.d (.str i), .d (.str j)] => R (.d (.bool (occ1 j i)))
  | _ => False
theorem oc_inS {K : PySem.W.Frag} : OpOk K oInS fun vs H Q => ∃ x y, vs = [x, y] ∧ ∃ i j, x = .str i ∧ y = .str j ∧ Q (.bl (!(Builtin.Str.occurrences j i 0 j.length 1).isEmpty)) H := by
  intro ts vs H Q R b h k
  unfold oInS at h
  split at h
  · rename_i i j
    obtain ⟨v, w, _, _, e, ⟨h1, _⟩, ⟨h2, _⟩⟩ := b2 b
    have h1 : v = .str i := h1
    have h2 : w = .str j := h2
    subst h1 h2
    exact ⟨_, _, e, i, j, rfl, rfl, k (.bl (occ1 j i)) H (.d (.bool (occ1 j i))) [] (Same.refl _) nofresh (by simp) ⟨rfl, rfl⟩ h⟩
  · exact h.elim
theorem occ1_one (x : Str) (c : Nat) : occ1 x ⟨#[c]⟩ = decide (c ∈ x.cps.toList) := PySem.StrLaws.found_one x c
end PW
end PwOc
section SPk19
set_option maxRecDepth 100000
/-! SPk19: histories done: a pair whose list is the asker's own. -/
namespace PW
open PySem L2
open PyProof.Rows hiding St
def S_doneX : FS := fun ss R => ∃ h s u ds, ss = [.own (.d (houD h)), .own (.d (stD s)), .own u] ∧ itsOf u = some (ds.map Deed.d) ∧ HOk h s ds ∧ ∀ fin, R (tpL (stD (hEnd h s ds)) (hRows h s ds)) fin
abbrev Ask := List Wkr × Stg × List Deed
noncomputable def askD (q : Ask) : D := .tuple [houD q.1, stD q.2.1, .list (q.2.2.map Deed.d), doneD q.1 q.2.1 q.2.2]
structure AskOk (q : Ask) : Prop where
  ho : HOk q.1 q.2.1 q.2.2
  nm : NmsOk q.1
  ln : q.2.2.length ≤ 60
  bt : beatsOf q.2.2 ≤ 1000
end PW
end SPk19
section TFk19
set_option maxRecDepth 100000
/-! printed by gen.py: the transformers of k19 -/
namespace PW
open PySem L2
open PyProof.Rows hiding St

def tf_doneX_1 : SF := bCons (sDrop (fMut 3 mExtA (fCons (fVar 5) (fNil)))) (bKill [4, 5] (bNil))

def tf_doneX_2 : SF := bCons (sAsg (fCall S_deed_done [.v, .v, .v] [] (fCons (fVar 0) (fCons (fVar 1) (fCons (fVar 4) (fNil))))) (gTp 2 (gC (gNm 1) (gC (gNm 5) (gN))))) (tf_doneX_1)

def tf_doneX_3 : SF := bCons (sRet (fTupL (fCons (fVar 1) (fCons (fMv 3) (fNil))))) (bNil)

def tf_doneX_4 : SF := bKill [4, 5] (bCons (sFor (iAny (fFrz 2)) (gNm 4) (tf_doneX_2)) (tf_doneX_3))

/-- ['house', 'standing', 'history', 'rows', 'deed', 'more'] mut [] -/
def tf_doneX : SF := bCons (sAsg (fOp oLst (fCons (fCall S_heard [.v, .v] [] (fCons (fVar 0) (fCons (fVar 1) (fNil)))) (fNil))) (gNm 3)) (tf_doneX_4)

def tf_law_1 : SF := bCons (sDrop (fMut 5 mExt (fCons (fLc [13] (iTup (fOp oTup (fCons (fVar 2) (fCons (fVar 6) (fNil))))) (gNm 13) (tYesF) (fOp oTup (fCons (fVar 13) (fCons (fVar 8) (fCons (fFrz 9) (fCons (fCall S_law_done [.v, .v, .v] [] (fCons (fVar 13) (fCons (fVar 8) (fCons (fVar 9) (fNil))))) (fNil))))))) (fNil)))) (bKill [3, 6] (bNil))

def tf_law_2 : SF := bCons (sAsg (fOp oTupOf (fCons (fLc [14, 15, 16] (iTup (fVar 2)) (gTp 3 (gC (gNm 14) (gC (gNm 15) (gC (gNm 16) (gN))))) (tYesF) (fOp oTup (fCons (fVar 14) (fCons (fVar 15) (fCons (fOp oS01 (fCons (fVar 16) (fCons (fCst (.int 1)) fNil))) (fNil)))))) (fNil))) (gNm 6)) (tf_law_1)

def tf_law_3 : SF := bCons (sTupN [8, 9] (fCons (fCall S_law_stand [.l, .v] [] (fCons (fBor 4) (fCons (fVar 2) (fNil)))) (fCons (fCall S_law_deeds [.l, .v, .v] [] (fCons (fBor 4) (fCons (fVar 2) (fCons (fCall S_law_count [.l, .v] [] (fCons (fBor 4) (fCons (fCst (.int 13)) (fNil)))) (fNil))))) (fNil)))) (tf_law_2)

def tf_law_4 : SF := bCons (sIf (fOr (fNot (fTest (fCallBT 12 2 (S_law_alike 6) (fCons (fBor 12) (fCons (fVar 10) (fNil)))))) (fTest (fOp oNeS (fCons (fOp oRepr (fCons (fVar 9) (fNil))) (fCons (fVar 11) fNil))))) (bCons (sRet (fCst (.bool false))) (bNil)) (bNil)) (bCons (sDrop (fTpClr 12)) (bKill [7, 8, 9, 10, 11] (bNil)))

def tf_law_5 : SF := bCons (sIf (fTest (fOp oEqS (fCons (fCall S_law_take [.l, .v] [] (fCons (fBor 4) (fCons (fCst (.int 2)) (fNil)))) (fCons (fCst (.int 0)) fNil)))) (bCons (sAsg (fCall S_doneX [.v, .v, .v] [] (fCons (fVar 7) (fCons (fVar 8) (fCons (fVar 9) (fNil))))) (gNm 12)) (bNil)) (bCons (sAsg (fCallK S_doneX 0 3 [.a 2, .a 1, .a 0] (fNil) (fCons (fOp oTupOf (fCons (fVar 9) (fNil))) (fCons (fVar 8) (fCons (fVar 7) (fNil))))) (gNm 12)) (bNil))) (tf_law_4)

def tf_law_6 : SF := bCons (sAsg (fOp oRepr (fCons (fVar 9) (fNil))) (gNm 11)) (tf_law_5)

def tf_law_7 : SF := bKill [7, 8, 9, 10, 11] (bCons (sFor (iLst (fCall S_law_mixed [.l, .v] [] (fCons (fBor 4) (fCons (fOp oCatL (fCons (fBor 5) (fCons (fBor 5) fNil))) (fNil))))) (gTp 4 (gC (gNm 7) (gC (gNm 8) (gC (gNm 9) (gC (gNm 10) (gN)))))) (tf_law_6)) (bKill [1, 2, 3, 4, 5, 6, 7, 8, 9, 10, 11] (bNil)))

def tf_law_8 : SF := bKill [3, 6] (bCons (sFor (iRg1 (fCons (fCst (.int 3)) (fNil))) (gNm 3) (tf_law_3)) (tf_law_7))

def tf_law_9 : SF := bCons (sAsg (fCall S_law_some_home [.l] [] (fCons (fBor 4) (fNil))) (gNm 2)) (tf_law_8)

def tf_law_10 : SF := bCons (sPar 4 5 (fCons (fCall S_law_sack [.v, .v] [] (fCons (fVar 0) (fCons (fVar 1) (fNil)))) (fCons (fOp oLst (fNil)) (fNil)))) (tf_law_9)

/-- ['_law_script', '_law_base', '_law_home_here', '_law_turn', '_law_sack_here', '_law_asked', '_law_bare', '_law_one_home', '_law_stand_here', '_law_deeds_here', '_law_due', '_law_kept', '_law_found', '_law_one', '_law_name', '_law_long', '_law_bells'] mut [] -/
def tf_law : SF := bKill [1, 2, 3, 4, 5, 6, 7, 8, 9, 10, 11] (bCons (sFor (iRg1 (fCons (fCst (.int 2)) (fNil))) (gNm 1) (tf_law_10)) (bCons (sRet (fCst (.bool true))) (bNil)))

end PW
end TFk19
section PFk19
set_option maxRecDepth 100000
set_option maxHeartbeats 1000000
/-! PFk19: the law's walk -/
namespace PW
open PySem L2
open PyProof.Rows hiding St
local macro_rules | `(tactic| walk_at "pw") => `(tactic| simp only [oInS, aMul, fLcB, bApp, bFor, oSortD, fFld, sFldS, sFldA, fMeth, fMake, fKw, lookF, putT, fOrT, oNotInT, oInA, fDk0, isDk, fGetD, sSetKd, fCallX, sAsgX, sDropX, dsO, fKw, iRevF, mExtA, oNotB, oIsB, scal, fNotV, sRaise, sTry, fIsX, fXf, fIsiN, iAny, oRepr, sAugI, aAdd, aSub, mIns,  mClr, fCallB, dsB, List.map_cons, iRv1, oLstRg, sTupN, sPar3, setO, sSetK, fGetK, fNeK, fPopK, fDk, valsO, fCallK, fCat, fPerm, fLenA, dsO, pmD, vals, fIsi2, iZip, iEnu, iStrF, gHd, itsOf, fStr1, fLs, mPop, mPopAt, mExt, fAsI, oS00, oS01, oS10, oS11, oRev, cutT, oDivW, oCatS, oCatT, oRepL, oIsN, oNotN, isN, oAbs, fCh, fOfT, fIfE, oEqD, oNeD, dOf, lk_great, lk_now, lk_seed, lk_turn, pt_now, pt_seed, pt_turn, rp_great, sack_len, sackT, List.length_append, bCons, bNil, bKill, killS, sAsg, sRet, sIf, sDrop, sPar, sFor, fCall, pass, fLc, iRg1, iRg2, iLst, iTup, iEnumL, seqOf, tYesF, ownsOf, putBack, keepD, gTp, gC, gN, fOp, fCons, fNil, fVar, fBor, fCst, fMv, fFrz, fFz, withR, gNm, fTest, fNot, fOr, fAnd, fAndV, fOrV, fIsi, tyOf, Ty.isi, oAdd, oSub, oMul, oDiv, oMod, oPow, oNeg, oCmp, oEqS, oNeS, oTup, oLst, datas, oLen, oIx, oInt, oMax2, oMin2, oCatL, sSubL, fMut, mApp, CDiv, CMul, CPow, List.replicate, List.cons_append, List.nil_append, List.getElem?_cons_zero, List.getElem?_cons_succ, List.getD_cons_zero, List.getD_cons_succ, List.set_cons_zero, List.set_cons_succ, List.length_cons, List.length_nil, List.length_map, sizeLine_eq, Nat.reduceAdd, Nat.reduceLeDiff, Nat.reduceLT, true_and, and_true, true_or, or_true, and_self, Bool.false_eq_true, if_true, if_false, decide_eq_true_eq, atI0, atI1, atI2, at_pick, ixN, Option.bind_some, Int.reduceLE, Int.reduceLT, Int.reduceNeg, Int.reduceToNat, Int.reduceAdd, Int.reducePow, Int.reduceMul, Int.reduceAbs, Nat.reducePow, Int.cast_ofNat_Int, Int.toNat_zero, Int.toNat_one, ↓reduceIte, Std.le_refl, List.map_nil, List.append_nil, List.tail_cons, List.headD_cons, List.take_succ_cons, List.take_zero, List.take_nil])
local macro_rules | `(tactic| walk_at "px") => `(tactic| simp only [fTupL, fFzT, fCallBT, fTpClr])
theorem p_doneX (ss : List Slot) (R : T → List Slot → Prop) (hl : ss.length = 3) (h : S_doneX ss R) : tf_doneX { nx := fun ρ => R (.d .none) (finS [] 3 ρ), rt := fun t ρ => R t (finS [] 3 ρ) } (ss ++ List.replicate 3 .un) := by
  obtain ⟨h0, s0, u, ds, rfl, hu, ⟨ok, os, hd, hb, lx⟩, h⟩ := h
  have hs := okS_length os
  simp only [tf_doneX]
  walk_at "pw"
  refine ⟨h0, s0, rfl, ok, hs, fun ys fin p so => ?_⟩
  walk_at "pw"
  rw [srt_eq p so]
  simp only [tf_doneX_4]
  walk_at "pw"
  have go : ∀ u : D, lp (gNm 4) tf_doneX_2 { nx := fun ρ => tf_doneX_3 { nx := fun ρ => R (.d .none) (finS [] 3 ρ), rt := fun t ρ => R t (finS [] 3 ρ) } ρ, rt := fun t ρ => R t (finS [] 3 ρ) } (ds.map Deed.d) [.own (.d (houD h0)), .own (.d (stD s0)), .own (.d u), .own (.ls [strsD (rowOf h0 s0)]), .un, .un] := by
    intro u
    refine lp_at (fun i ρ => ρ = [.own (.d (houD h0)), .own (.d (stD (hEnd h0 s0 (ds.take i)))), .own (.d u), .own (.ls (hRows h0 s0 (ds.take i))), .un, .un]) rfl ?_ ?_
    · rintro ρ rfl
      rw [List.length_map, List.take_length]
      simp only [tf_doneX_3]
      walk_at "pw"
      simp only [fTupL]
      walk_at "pw"
      exact h _
    · rintro i x ρ k hx rfl hk
      obtain ⟨d, hdd, rfl⟩ := map_at hx
      have hm := hd d (List.mem_of_getElem? hdd)
      have ht : ds.take (i + 1) = ds.take i ++ [d] := by rw [List.take_add_one, hdd]; rfl
      have oi := okS_hEnd ok (ds.take i) os
      simp only [tf_doneX_2]
      walk_at "pw"
      refine ⟨h0, _, d, rfl, ok, oi, hm, fun fin => ?_⟩
      walk_at "pw"
      simp only [tf_doneX_1]
      walk_at "pw"
      have hi : ∀ d ∈ ds.take i, DeedOk (names h0) d := fun d h => hd d (List.take_subset _ _ h)
      have l1 := hRows_length (h := h0) (s := s0) hi
      have l2 := dSts_length (h := h0) (s := hEnd h0 s0 (ds.take i)) hm
      have l3 := beatsOf_take hd i
      have l4 : d.bt ≤ 2000 := by cases d <;> first | exact hm.2 | (show (0 : Int) ≤ 2000; omega)
      refine ⟨by omega, hk _ ?_⟩
      rw [ht, hEnd_append]
      unfold hRows
      rw [hSts_append, ← List.cons_append, List.map_append]
      show _ = [_, _, _, Slot.own (.ls (_ ++ List.map _ (dSts h0 (hEnd h0 s0 (ds.take i)) d ++ []))), _, _]
      rw [List.append_nil]
      rfl
  rcases its_three hu with rfl | rfl | rfl
  all_goals
    walk_at "pw"
    exact go _

/-- each with its first bell alone -/
def bareW (w : Wkr) : Wkr := ⟨w.nm, w.lg, w.bl.take 1⟩
def bareH (h : List Wkr) : List Wkr := h.map bareW
theorem names_bare (h : List Wkr) : names (bareH h) = names h := by unfold names bareH; rw [List.map_map]; rfl
theorem okH_bare {h : List Wkr} (ok : OkH h) : OkH (bareH h) := by
  have back : ∀ v ∈ bareH h, ∃ w ∈ h, v = bareW w := fun v hv => by
    obtain ⟨w, hw, e⟩ := List.mem_map.mp hv
    exact ⟨w, hw, e.symm⟩
  have tk : ∀ (w : Wkr) (b : Bel), b ∈ w.bl.take 1 → b ∈ w.bl := fun w b hb => List.take_subset _ _ hb
  refine ⟨by unfold bareH; rw [List.length_map]; exact ok.few, by rw [names_bare]; exact ok.nd, fun v hv => ?_, fun v hv => ?_, fun v hv => ?_, fun v hv b hb => ?_, fun v hv b hb => ?_, by rw [names_bare]; exact ok.no⟩
  all_goals obtain ⟨w, hw, rfl⟩ := back v hv
  · exact ok.lg w hw
  · have := ok.bl w hw
    have := List.length_take_le 1 w.bl
    show (w.bl.take 1).length ≤ 64
    omega
  · show ((w.bl.take 1).map Bel.pl).Nodup
    rw [List.map_take]
    exact (ok.one w hw).sublist (List.take_sublist _ _)
  · exact ok.so w hw b (tk w b hb)
  · rw [names_bare]; exact ok.to w hw b (tk w b hb)
theorem okS_bare : ∀ {h : List Wkr} {s : Stg}, OkS h s → OkS (bareH h) s
  | [], [], _ => trivial
  | w :: h, p :: s, ⟨a, b, c, o⟩ => ⟨a, b, c, okS_bare o⟩
theorem ask_bare {h : List Wkr} {s : Stg} {ds : List Deed} (k : AskOk (h, s, ds)) : AskOk (bareH h, s, ds) := by
  obtain ⟨⟨ok, o, dk, b, l⟩, nm, ln, bt⟩ := k
  exact ⟨⟨okH_bare ok, okS_bare o, fun d hd => by show DeedOk (names (bareH h)) d; rw [names_bare]; exact dk d hd, b, l⟩, fun z hz => nm z (by rw [names_bare] at hz; exact hz), ln, bt⟩
def bareD : D → D
  | .tuple [n, l, .tuple bs] => .tuple [n, l, .tuple (bs.take 1)]
  | x => x
theorem bare_map (h : List Wkr) : (h.map Wkr.d).map bareD = (bareH h).map Wkr.d := by
  unfold bareH
  rw [List.map_map, List.map_map]
  refine List.map_congr_left fun w _ => ?_
  show PyData.tuple [.str w.nm, .int w.lg, .tuple ((w.bl.map Bel.d).take 1)] = (bareW w).d
  rw [← List.map_take]
  rfl
theorem cut_one (xs : List D) : cutD xs none (some 1) = xs.take 1 := by
  cases xs with
  | nil => rfl
  | cons x xs => exact cut_to (k := 1) (by simp)
theorem row_len {h : List Wkr} (ok : OkH h) (s : Stg) : (rowOf h s).length ≤ 5 := by
  have hz := here_length (s := s) ok.one
  have hf := ok.few
  have l1 : (soundsOf (here h s)).length ≤ 5 := by
    unfold soundsOf
    have := List.length_filter_le (fun z : Str => decide (z ≠ "")) ((here h s).map Bel.sd)
    rw [List.length_map] at this
    omega
  unfold rowOf srt
  split
  · rename_i hx
    rw [(Classical.choose_spec hx).1.length_eq]; exact l1
  · exact l1
theorem alk_rowD {h : List Wkr} (ok : OkH h) (x : Stg) : Alk 4 (rowD h x) := by
  have l1 : (rowOf h x).length ≤ 1000 := by have := row_len ok x; omega
  refine ⟨by rw [List.length_map, sizeLine_eq]; omega, fun y hy => ?_⟩
  obtain ⟨z, _, rfl⟩ := List.mem_map.mp hy
  exact True.intro
theorem alk_done {q : Ask} (k : AskOk q) : Alk 6 (doneD q.1 q.2.1 q.2.2) := by
  obtain ⟨⟨ok, o, dk, b, l⟩, nm, ln, bt⟩ := k
  have few := ok.few
  have rl := hRows_length (h := q.1) (s := q.2.1) dk
  refine ⟨by rw [sizeLine_eq]; simp, fun x hx => ?_⟩
  rcases (by simpa using hx : x = stD (hEnd q.1 q.2.1 q.2.2) ∨ x = .list (hRows q.1 q.2.1 q.2.2)) with rfl | rfl
  · have := okS_length (okS_hEnd ok q.2.2 o)
    refine ⟨by rw [List.length_map, sizeLine_eq]; omega, fun y hy => ?_⟩
    obtain ⟨p, _, rfl⟩ := List.mem_map.mp hy
    refine ⟨by rw [sizeLine_eq]; simp, fun u hu => ?_⟩
    rcases (by simpa using hu : u = .int p.1 ∨ u = .int p.2) with rfl | rfl <;> exact True.intro
  · refine ⟨by rw [sizeLine_eq]; omega, fun y hy => ?_⟩
    obtain ⟨x, _, rfl⟩ := List.mem_map.mp hy
    exact alk_rowD ok x
theorem second (ns : List Int) (i : Nat) (g : List Int) (n s t : Int) (h0 : List Wkr) (qs : List Ask) (s8 s9 s12 : Slot) (lq : qs.length ≤ 6) (aq : ∀ q ∈ qs, AskOk q) {E : Es}
    (hk : ∀ (g : List Int) (n s t : Int) (s12 : Slot), E.nx [.own (.d (.list (ns.map .int))), .un, .un, .un, .un, .un, .un, .un, .un, .un, .un, .un, s12, .un, .un, .un, .un]) :
    tf_law_7 E [.own (.d (.list (ns.map .int))), .own (.d (.int (0 + i))), .own (.d (houD h0)), .un, .own (sackT g n s t), .own (.ls (qs.map askD)), .un, .un, s8, s9, .un, .un, s12, .un, .un, .un, .un] := by
  simp only [tf_law_7]
  walk_at "pw"
  refine ⟨by omega, ?_⟩
  refine ⟨g, n, s, t, _, _, rfl, rfl, by rw [List.length_append, List.length_map]; omega, fun ys g n s t f hp => ?_⟩
  walk_at "pw"
  have mem : ∀ y ∈ ys, ∃ q ∈ qs, y = askD q := fun y hy => by
    rcases List.mem_append.mp (hp.subset hy) with z | z <;> (obtain ⟨q, hq, e⟩ := List.mem_map.mp z; exact ⟨q, hq, e.symm⟩)
  refine lp_at (fun j ρ => ∃ (g : List Int) (n s t : Int) (s12 : Slot), ρ = [.own (.d (.list (ns.map .int))), .own (.d (.int (0 + i))), .own (.d (houD h0)), .un, .own (sackT g n s t), .own (.ls (qs.map askD)), .un, .un, .un, .un, .un, .un, s12, .un, .un, .un, .un]) ⟨g, n, s, t, s12, rfl⟩ ?_ ?_
  · rintro ρ ⟨g, n, s, t, s12, rfl⟩
    simp only [sackT]
    walk_at "pw"
    exact hk g n s t s12
  rintro j x _ k2 hx ⟨g, n, s, t, s12, rfl⟩ hk2
  obtain ⟨q, hq, rfl⟩ := mem x (List.mem_of_getElem? hx)
  have ka := aq q hq
  have al := alk_done ka
  obtain ⟨⟨ok, o, dk, b, l⟩, nm, ln, bt⟩ := id ka
  have dtq := deeds_tq ok.few nm dk
  have rp := repr_row dtq (by rw [List.length_map]; omega)
  have ho := ka.ho
  simp only [sackT, askD]
  walk_at "pw"
  simp only [tf_law_6]
  walk_at "pw"
  refine ⟨rp, ?_⟩
  simp only [tf_law_5]
  walk_at "pw"
  refine ⟨g, n, s, t, 2, rfl, by omega, by omega, fun r g n s t f r0 r1 => ?_⟩
  walk_at "pw"
  have tail : tf_law_4 { nx := k2, rt := E.rt, bk := fun ρ1 => E.bk ρ1, ct := k2, xe := E.xe } [.own (.d (.list (ns.map .int))), .own (.d (.int (0 + i))), .own (.d (houD h0)), .un, .own (sackT g n s t), .own (.ls (qs.map askD)), .un, .own (.d (houD q.1)), .own (.d (stD q.2.1)), .own (.d (.list (q.2.2.map Deed.d))), .own (.d (doneD q.1 q.2.1 q.2.2)), .own (.d (.str (PyData.list (q.2.2.map Deed.d)).shown)), .own (tpL (stD (hEnd q.1 q.2.1 q.2.2)) (hRows q.1 q.2.1 q.2.2)), .un, .un, .un, .un] := by
    simp only [tf_law_4]
    walk_at "pw"
    simp only [fCallBT]
    walk_at "pw"
    have ed : ∀ (d : D) (xs : List D) (x : D), dsC 12 (tpD d xs) [.slot 12, .val (.d x)] = some [tpD d xs, x] := fun _ _ _ => rfl
    rw [ed]
    refine ⟨rfl, doneD q.1 q.2.1 q.2.2, rfl, al, fun fin => ?_⟩
    walk_at "pw"
    rw [if_neg (by simp)]
    refine ⟨rp, ?_⟩
    rw [if_neg (by simp)]
    simp only [fTpClr]
    walk_at "pw"
    exact hk2 _ ⟨g, n, s, t, _, rfl⟩
  refine ite2 (fun _ => ?_) fun _ => ⟨_, _, rfl, rfl, by rw [List.length_map, sizeLine_eq]; omega, ?_⟩
  · exact ⟨q.1, q.2.1, _, q.2.2, rfl, rfl, ho, fun fin => tail⟩
  · walk_at "pw"
    exact ⟨q.1, q.2.1, _, q.2.2, rfl, rfl, ho, fun fin => tail⟩
theorem p_law (ss : List Slot) (R : T → List Slot → Prop) (hl : ss.length = 1) (h : S_law ss R) : tf_law { nx := fun ρ => R (.d .none) (finS [] 1 ρ), rt := fun t ρ => R t (finS [] 1 ρ) } (ss ++ List.replicate 16 .un) := by
  obtain ⟨ns, rfl, hns, h⟩ := h
  simp only [tf_law]
  walk_at "pw"
  refine lp_at (fun i ρ => ∃ s12, ρ = [.own (.d (.list (ns.map .int))), .un, .un, .un, .un, .un, .un, .un, .un, .un, .un, .un, s12, .un, .un, .un, .un]) ⟨.un, rfl⟩ ?_ ?_
  · rintro ρ ⟨s12, rfl⟩
    walk_at "pw"
    exact h _
  rintro i x _ k hx ⟨s12, rfl⟩ hk
  obtain ⟨hi, rfl⟩ := upto_at hx
  have hi : i < 2 := by simpa using hi
  simp only [tf_law_10]
  walk_at "pw"
  refine ⟨ns, _, rfl, hns, by omega, by omega, fun g n s t fin => ?_⟩
  walk_at "pw"
  simp only [tf_law_9]
  walk_at "pw"
  refine ⟨g, n, s, t, rfl, fun h0 g n s t ok ⟨hne, hnm⟩ => ?_⟩
  have few := ok.few
  have nok : NmsOk h0 := fun z hz => ⟨ok.no z hz, hnm z hz⟩
  walk_at "pw"
  simp only [tf_law_8]
  walk_at "pw"
  refine lp_at (fun j ρ => ∃ (g : List Int) (n s t : Int) (qs : List Ask) (s8 s9 : Slot), qs.length = 2 * j ∧ (∀ q ∈ qs, AskOk q) ∧ ρ = [.own (.d (.list (ns.map .int))), .own (.d (.int (0 + i))), .own (.d (houD h0)), .un, .own (sackT g n s t), .own (.ls (qs.map askD)), .un, .un, s8, s9, .un, .un, s12, .un, .un, .un, .un]) ⟨g, n, s, t, [], .un, .un, rfl, by simp, rfl⟩ ?_ ?_
  · rintro ρ ⟨g, n, s, t, qs, s8, s9, hq, aq, rfl⟩
    rw [upto_length] at hq
    exact second ns i g n s t h0 qs s8 s9 s12 (by omega) aq fun g n s t s12 => hk _ ⟨s12, rfl⟩
  rintro j x _ k2 hx ⟨g, n, s, t, qs, s8, s9, hq, aq, rfl⟩ hk2
  obtain ⟨hj, rfl⟩ := upto_at hx
  simp only [sackT]
  walk_at "pw"
  simp only [tf_law_3]
  walk_at "pw"
  refine ⟨g, n, s, t, h0, rfl, ok, fun st g n s t f o => ?_⟩
  walk_at "pw"
  refine ⟨g, n, s, t, 13, rfl, by omega, by omega, fun c g n s t f c0 c1 => ?_⟩
  walk_at "pw"
  refine ⟨g, n, s, t, h0, _, rfl, ok, c0, c1, fun ds g n s t f1 f2 dok dl db => ?_⟩
  walk_at "pw"
  have k0 : AskOk (h0, st, ds) := ⟨⟨ok, o, dok, by show beatsOf ds ≤ _; omega, by show ds.length ≤ _; omega⟩, nok, dl, db⟩
  have k1 : AskOk (bareH h0, st, ds) := ask_bare k0
  simp only [tf_law_2]
  walk_at "pw"
  refine lpC_map bareD (by rw [List.length_map, sizeLine_eq]; omega) ?_ ?_
  · rw [bare_map]
    walk_at "pw"
    refine ⟨_, _, rfl, rfl, by unfold bareH; rw [List.length_map, List.length_map, sizeLine_eq]; omega, ?_⟩
    simp only [tf_law_1]
    walk_at "pw"
    refine lpC_at (fun u acc ρ => acc = ([askD (h0, st, ds), askD (bareH h0, st, ds)]).take u ∧ ∃ s9, (s9 = .own (.ls (ds.map Deed.d)) ∨ s9 = .own (.d (.list (ds.map Deed.d)))) ∧ ρ = [.own (.d (.list (ns.map .int))), .own (.d (.int (0 + i))), .own (.d (houD h0)), .own (.d (.int (0 + j))), .own (.dk (sackK g n s t)), .own (.ls (qs.map askD)), .own (.d (.tuple ((bareH h0).map Wkr.d))), .un, .own (.d (stD st)), s9, .un, .un, s12, .un, .un, .un, .un]) ⟨rfl, _, .inl rfl, rfl⟩ (by rw [sizeLine_eq]; simp) ?_ ?_
    · rintro acc ρ ⟨rfl, s9, _, rfl⟩
      walk_at "pw"
      refine ⟨by (try simp); omega, ?_⟩
      refine hk2 _ ⟨g, n, s, t, qs ++ [(h0, st, ds), (bareH h0, st, ds)], _, _, by simp; omega, fun q hq => ?_, by rw [List.map_append]; rfl⟩
      rcases List.mem_append.mp hq with z | z
      · exact aq q z
      · rcases (by simpa using z : q = (h0, st, ds) ∨ q = (bareH h0, st, ds)) with rfl | rfl
        · exact k0
        · exact k1
    · rintro u x acc ρ kk1 kk2 hx2 ⟨rfl, s9, h9, rfl⟩ g1 g2
      obtain ⟨hh, kh, eh, en⟩ : ∃ hh, AskOk (hh, st, ds) ∧ x = houD hh ∧ ([askD (h0, st, ds), askD (bareH h0, st, ds)]).take (u + 1) = ([askD (h0, st, ds), askD (bareH h0, st, ds)]).take u ++ [askD (hh, st, ds)] := by
        match u, hx2 with
        | 0, hx2 => exact ⟨h0, k0, by simpa using hx2.symm, rfl⟩
        | 1, hx2 => exact ⟨bareH h0, k1, (by simpa using hx2.symm : x = .tuple ((bareH h0).map Wkr.d)), rfl⟩
      subst eh
      rcases h9 with rfl | rfl
      all_goals
        walk_at "pw"
        refine ⟨hh, st, ds, rfl, kh.ho, fun fin => ?_⟩
        walk_at "pw"
        exact g1 _ _ ⟨en.symm, _, .inr rfl, rfl⟩
  · intro x k1 hx hk
    obtain ⟨w, hw, rfl⟩ := List.mem_map.mp hx
    simp only [Wkr.d]
    walk_at "pw"
    rw [cut_one]
    exact hk
end PW
end PFk19
section DVk19
set_option maxRecDepth 100000
set_option maxHeartbeats 4000000
/-! printed by gen.py: the derivations of k19 -/
namespace PW
open PySem PySem.Spec L2
open PyProof.Rows hiding St

def topS (i : Nat) : Stmt := PySem.Challenge.pw_turnround_k19_histories_done.main.body.getD i (.Pass ⟨0, 0, 0, 0⟩)
abbrev s_law_take : Stmt := topS 19
abbrev s_law_mixed : Stmt := topS 20
abbrev s_law_names : Stmt := topS 21
abbrev s_law_home : Stmt := topS 22
abbrev s_law_some_home : Stmt := topS 23
abbrev s_law_sack : Stmt := topS 18
abbrev s_law_stand : Stmt := topS 24
abbrev s_law_called : Stmt := topS 25
abbrev s_law_deed : Stmt := topS 34
abbrev s_law_beats_in : Stmt := topS 35
abbrev s_law_deeds : Stmt := topS 36
abbrev s_bells_here : Stmt := topS 6
abbrev s_heard : Stmt := topS 11
abbrev s_names_of : Stmt := topS 3
abbrev s_turned : Stmt := topS 5
abbrev s_told_oddly : Stmt := topS 7
abbrev s_rung : Stmt := topS 8
abbrev s_stepped : Stmt := topS 9
abbrev s_beaten : Stmt := topS 10
abbrev s_passed : Stmt := topS 12
abbrev s_hearing : Stmt := topS 13
abbrev s_deed_done : Stmt := topS 15
abbrev s_doneX : Stmt := topS 16
abbrev s_law_count : Stmt := topS 37
abbrev s_law_alike : Stmt := topS 33
abbrev s_law_here : Stmt := topS 27
abbrev s_law_heard : Stmt := topS 31
abbrev s_law_flip : Stmt := topS 26
abbrev s_law_rung : Stmt := topS 28
abbrev s_law_gone : Stmt := topS 29
abbrev s_law_beat : Stmt := topS 30
abbrev s_law_walk : Stmt := topS 32
abbrev s_law_led : Stmt := topS 38
abbrev s_law_done : Stmt := topS 39
abbrev s_law : Stmt := topS 40
structure Tx (mg : Str → Option Value) : Prop where
  m_abs : mg "abs" = none
  m_all : mg "all" = none
  m_bool : mg "bool" = none
  m_enumerate : mg "enumerate" = none
  m_int : mg "int" = none
  m_isinstance : mg "isinstance" = none
  m_len : mg "len" = none
  m_list : mg "list" = none
  m_max : mg "max" = none
  m_min : mg "min" = none
  m_range : mg "range" = none
  m_repr : mg "repr" = none
  m_sorted : mg "sorted" = none
  m_sum : mg "sum" = none
  m_tuple : mg "tuple" = none
  m_zip : mg "zip" = none
section
variable {Pg : Program} {w : World} {K : PySem.W.Frag} {mg : Str → Option Value} {base : Heap}
abbrev N_law_take : List Str := ["_law_sack_here", "_law_many", "_law_one", "_law_digit"]
theorem sc_law_take : FnScope N_law_take ["_law_sack_here", "_law_many"] (defScope s_law_take) := ⟨rfl, rfl, rfl, by decide +kernel, rfl, by decide +kernel, by decide +kernel⟩
theorem ok_law_take {fa : Addr} {fd : FuncData} (F : Fun K "_law_take" "_law_take" s_law_take fa fd) (T : Tx mg)  : FnOk Pg w K mg base CX0 1 fa fd ["_law_sack_here", "_law_many"] (spO K 2 S_law_take) :=
  fn_ok (fx := [0]) (N := N_law_take) (k := 0) F sc_law_take rfl (fun cdv A outer s H E hr => show VSs _ _ _ tf_law_take from (vss_cons (vs_if (vt_w (vw_and (vt_cmp op_eq oc_eqS (ve_getK hr.units (pv 0)) ve_int (nomark _)) (vw_and1 (neK_test hr.units (pv 0))))) (vss_cons (vs_setK hr.units (ve_popK hr.units (pv 0)) (pv 0)) vss_nil) vss_nil) (vss_cons (vs_if (vt_cmp op_gt oc_gt (ve_getK hr.units (pv 0)) ve_int (nomark _)) (vss_cons (vs_asg (ve_mod (ve_getK hr.units (pv 0)) (ve_var (pv 1))) (vg_nm (pg_name (i := 3) sc_law_take.nd rfl (by first | exact .inl rfl | exact .inr rfl)) ⟨_, rfl⟩ (by decide))) (vss_cons (vs_setK hr.units (ve_div (ve_getK hr.units (pv 0)) (ve_var (pv 1))) (pv 0)) (vss_cons (vs_ret (ve_var (pv 3))) vss_nil))) vss_nil) (vss_cons (vs_setK hr.units (ve_add (ve_getK hr.units (pv 0)) ve_int) (pv 0)) (vss_cons (vs_asg (ve_mod (ve_mul (ve_mod (ve_add (ve_getK hr.units (pv 0)) (ve_mul ve_int (ve_getK hr.units (pv 0)))) ve_int) ve_int) ve_int) (vg_nm (pg_name (i := 2) sc_law_take.nd rfl (by first | exact .inl rfl | exact .inr rfl)) ⟨_, rfl⟩ (by decide))) (vss_cons (vs_setK hr.units (ve_add (ve_mod (ve_add (ve_var (pv 2)) (ve_mul ve_int (ve_getK hr.units (pv 0)))) ve_int) ve_int) (pv 0)) (vss_cons (vs_ret (ve_mod (ve_div (ve_add (ve_mul (ve_var (pv 2)) ve_int) (ve_getK hr.units (pv 0))) ve_int) (ve_var (pv 1)))) vss_nil))))))) fun ss R hl hS => p_law_take ss R hl hS
abbrev N_law_mixed : List Str := ["_law_sack_here", "_law_some", "_law_turn", "_law_left", "_law_found"]
theorem sc_law_mixed : FnScope N_law_mixed ["_law_sack_here", "_law_some"] (defScope s_law_mixed) := ⟨rfl, rfl, rfl, by decide +kernel, rfl, by decide +kernel, by decide +kernel⟩
theorem ok_law_mixed {fa : Addr} {fd : FuncData} (F : Fun K "_law_mixed" "_law_mixed" s_law_mixed fa fd) (T : Tx mg) (c_law_take : Cal Pg w K mg base 1 2 "_law_take" S_law_take []) : FnOk Pg w K mg base CX0 2 fa fd ["_law_sack_here", "_law_some"] (spO K 2 S_law_mixed) :=
  fn_ok (fx := [0]) (N := N_law_mixed) (k := 1) F sc_law_mixed rfl (fun cdv A outer s H E hr => show VSs _ _ _ tf_law_mixed from (vss_cons (vs_par (i := 3) (j := 4) rfl sc_law_mixed.nd rfl rfl (by decide) rfl rfl (va_cons (ve_callTy call_list_of oc_lstOf (by rfl) T.m_list boot_list (va_cons (ve_bor (pv 1)) va_nil)) (va_cons (ve_lst va_nil) va_nil)) rfl (by decide) (by decide)) (vss_kill [2] (vss_cons (vs_for PassesOwn.never rfl (vi_rg1 (by rfl) T.m_range (va_cons (ve_callB call_len oc_len (by rfl) T.m_len boot_len (va_cons (ve_bor (pv 3)) va_nil)) va_nil)) (vg_nm (pg_name (i := 2) sc_law_mixed.nd rfl (by first | exact .inl rfl | exact .inr rfl)) ⟨_, rfl⟩ (by decide)) (vss_cons (vs_expr (ve_mut PySem.F.slot_list_append PySem.F.type_list_append mt_append mk_app (pv 4) (va_cons (ve_mut PySem.F.slot_list_pop PySem.F.type_list_pop mt_popAt mk_popAt (pv 3) (va_cons (vcall c_law_take hr (by decide) (by rfl) rfl (va_cons (ve_bor (pv 0)) (va_cons (ve_callB call_len oc_len (by rfl) T.m_len boot_len (va_cons (ve_bor (pv 3)) va_nil)) va_nil))) va_nil)) va_nil))) (vss_kill [2] vss_nil))) (vss_cons (vs_ret (ve_mv (pv 4))) vss_nil))))) fun ss R hl hS => p_law_mixed ss R hl hS
abbrev N_law_names : List Str := ["_law_sack_here", "_law_many", "_law_stem", "_law_k", "_law_word", "_law_letters", "_law_found", "_law_at", "_law_first", "_law_letter"]
theorem sc_law_names : FnScope N_law_names ["_law_sack_here", "_law_many"] (defScope s_law_names) := ⟨rfl, rfl, rfl, by decide +kernel, rfl, by decide +kernel, by decide +kernel⟩
theorem ok_law_names {fa : Addr} {fd : FuncData} (F : Fun K "_law_names" "_law_names" s_law_names fa fd) (T : Tx mg) (c_law_take : Cal Pg w K mg base 1 2 "_law_take" S_law_take []) (c_law_mixed : Cal Pg w K mg base 2 2 "_law_mixed" S_law_mixed []) : FnOk Pg w K mg base CX0 3 fa fd ["_law_sack_here", "_law_many"] (spO K 2 S_law_names) :=
  fn_ok (fx := [0]) (N := N_law_names) (k := 2) F sc_law_names rfl (fun cdv A outer s H E hr => show VSs _ _ _ tf_law_names from (vss_cons (vs_tupN (m := 10) rfl rfl (va_cons ve_str (va_cons (ve_lst va_nil) va_nil)) (pgn_cons (pg_name (i := 5) sc_law_names.nd rfl (by first | exact .inl rfl | exact .inr rfl)) (pgn_cons (pg_name (i := 6) sc_law_names.nd rfl (by first | exact .inl rfl | exact .inr rfl)) pgn_nil)) rfl (by decide) (by decide)) (vss_cons (vs_asg (ve_join ve_str (ve_lc (n := 10) (vs := [3]) rfl rfl rfl sc_law_names.nd (vi_rg1 (by rfl) T.m_range (va_cons (vcall c_law_take hr (by decide) (by rfl) rfl (va_cons (ve_bor (pv 0)) (va_cons ve_int va_nil))) va_nil)) (blkOk_by (own := [("_law_k", 3)]) (N := N_law_names) (sc := defScope s_law_names) (by decide +kernel)) (fun _ _ _ _ _ => (vg_nm (pg_name (i := 3) sc_law_names.nd rfl (by first | exact .inl rfl | exact .inr rfl)) ⟨_, rfl⟩ (by decide))) (fun _ _ _ _ _ => vts_nil) (fun _ _ _ _ _ => (ve_ixs (ve_var (pv 5)) (vcall c_law_take hr (by decide) (by rfl) rfl (va_cons (ve_bor (pv 0)) (va_cons ve_int va_nil))))))) (vg_nm (pg_name (i := 2) sc_law_names.nd rfl (by first | exact .inl rfl | exact .inr rfl)) ⟨_, rfl⟩ (by decide))) (vss_cons (vs_par (i := 7) (j := 8) rfl sc_law_names.nd rfl rfl (by decide) rfl rfl (va_cons (vcall c_law_take hr (by decide) (by rfl) rfl (va_cons (ve_bor (pv 0)) (va_cons (ve_add (ve_callB call_len oc_len (by rfl) T.m_len boot_len (va_cons (ve_var (pv 2)) va_nil)) ve_int) va_nil))) (va_cons (vcall c_law_take hr (by decide) (by rfl) rfl (va_cons (ve_bor (pv 0)) (va_cons ve_int va_nil))) va_nil)) rfl (by decide) (by decide)) (vss_kill [3, 9] (vss_cons (vs_for PassesOwn.never rfl (vi_rg1 (by rfl) T.m_range (va_cons (ve_var (pv 1)) va_nil)) (vg_nm (pg_name (i := 3) sc_law_names.nd rfl (by first | exact .inl rfl | exact .inr rfl)) ⟨_, rfl⟩ (by decide)) (vss_cons (vs_asg (ve_ixs (ve_var (pv 5)) (ve_mod (ve_add (ve_var (pv 8)) (ve_mul ve_int (ve_var (pv 3)))) ve_int)) (vg_nm (pg_name (i := 9) sc_law_names.nd rfl (by first | exact .inl rfl | exact .inr rfl)) ⟨_, rfl⟩ (by decide))) (vss_cons (vs_expr (ve_mut PySem.F.slot_list_append PySem.F.type_list_append mt_append mk_app (pv 6) (va_cons (ve_ixs (ve_lst (va_cons (ve_catS (ve_catS (ve_s01 (ve_var (pv 2)) (ve_var (pv 7))) (ve_var (pv 9))) (ve_s10 (ve_var (pv 2)) (ve_var (pv 7)))) (va_cons (ve_catS (ve_ixs (ve_catL (ve_bor (pv 6)) (ve_lst (va_cons ve_str va_nil))) (ve_sub (ve_var (pv 3)) ve_int)) (ve_var (pv 9))) va_nil))) (ve_mod (ve_var (pv 3)) ve_int)) va_nil))) (vss_kill [3, 9] vss_nil)))) (vss_cons (vs_asg (ve_ixs (ve_lst (va_cons ve_str (va_cons ve_str (va_cons ve_str (va_cons ve_str (va_cons ve_str (va_cons ve_str va_nil))))))) (vcall c_law_take hr (by decide) (by rfl) rfl (va_cons (ve_bor (pv 0)) (va_cons ve_int va_nil)))) (vg_nm (pg_name (i := 4) sc_law_names.nd rfl (by first | exact .inl rfl | exact .inr rfl)) ⟨_, rfl⟩ (by decide))) (vss_cons (vs_if (vt_w (vw_and (vt_cmp op_eq oc_eqS (vcall c_law_take hr (by decide) (by rfl) rfl (va_cons (ve_bor (pv 0)) (va_cons ve_int va_nil))) ve_int (nomark _)) (vw_and1 (vt_cmp op_notIn_seq oc_notInD (ve_var (pv 4)) (ve_bor (pv 6)) rfl)))) (vss_cons (vs_subL (ve_var (pv 4)) (pv 6) (vcall c_law_take hr (by decide) (by rfl) rfl (va_cons (ve_bor (pv 0)) (va_cons (ve_var (pv 1)) va_nil)))) vss_nil) vss_nil) (vss_cons (vs_ret (vcall c_law_mixed hr (by decide) (by rfl) rfl (va_cons (ve_bor (pv 0)) (va_cons (ve_frz (pv 6)) va_nil)))) vss_nil))))))))) fun ss R hl hS => p_law_names ss R hl hS
abbrev N_law_home : List Str := ["_law_sack_here", "_law_words", "_law_wide", "_law_cap", "_law_sounds", "_law_found", "_law_many", "_law_thin", "_law_k", "_law_name", "_law_rest", "_law_other", "_law_place", "_law_long", "_law_bells", "_law_told"]
theorem sc_law_home : FnScope N_law_home ["_law_sack_here", "_law_words", "_law_wide", "_law_cap"] (defScope s_law_home) := ⟨rfl, rfl, rfl, by decide +kernel, rfl, by decide +kernel, by decide +kernel⟩
theorem ok_law_home {fa : Addr} {fd : FuncData} (F : Fun K "_law_home" "_law_home" s_law_home fa fd) (T : Tx mg) (c_law_take : Cal Pg w K mg base 1 2 "_law_take" S_law_take []) (c_law_names : Cal Pg w K mg base 3 2 "_law_names" S_law_names []) : FnOk Pg w K mg base CX0 4 fa fd ["_law_sack_here", "_law_words", "_law_wide", "_law_cap"] (spO K 4 S_law_home) :=
  fn_ok (fx := [0]) (N := N_law_home) (k := 3) F sc_law_home rfl (fun cdv A outer s H E hr => show VSs _ _ _ tf_law_home from (vss_cons (vs_par3 (i := 5) (j := 6) (l := 7) rfl sc_law_home.nd rfl rfl rfl (by decide) (by decide) (by decide) rfl rfl rfl (va_cons (ve_lst va_nil) (va_cons ve_int (va_cons (ve_add ve_int (vcall c_law_take hr (by decide) (by rfl) rfl (va_cons (ve_bor (pv 0)) (va_cons ve_int va_nil)))) va_nil))) rfl (by decide) (by decide) (by decide)) (vss_cons (vs_asg (ve_catL (ve_catL (ve_lst (va_cons ve_str (va_cons ve_str va_nil))) (vcall c_law_names hr (by decide) (by rfl) rfl (va_cons (ve_bor (pv 0)) (va_cons ve_int va_nil)))) (ve_callTy call_list_of oc_lstOf (by rfl) T.m_list boot_list (va_cons (ve_s01 (ve_var (pv 1)) ve_int) va_nil))) (vg_nm (pg_name (i := 4) sc_law_home.nd rfl (by first | exact .inl rfl | exact .inr rfl)) ⟨_, rfl⟩ (by decide))) (vss_kill [8, 9, 10, 11, 12, 13, 14] (vss_cons (vs_for PassesOwn.never rfl (vi_enu (va_cons (ve_var (pv 1)) va_nil) (by rfl) T.m_enumerate) (vg_tp rfl (vgs_cons (vg_nm (pg_name (i := 8) sc_law_home.nd rfl (by first | exact .inl rfl | exact .inr rfl)) ⟨_, rfl⟩ (by decide)) (vgs_cons (vg_nm (pg_name (i := 9) sc_law_home.nd rfl (by first | exact .inl rfl | exact .inr rfl)) ⟨_, rfl⟩ (by decide)) vgs_nil))) (vss_cons (vs_asg (ve_var (pv 6)) (vg_nm (pg_name (i := 10) sc_law_home.nd rfl (by first | exact .inl rfl | exact .inr rfl)) ⟨_, rfl⟩ (by decide))) (vss_cons (vs_for PassesOwn.never rfl (vi_lst (ve_s10 (ve_var (pv 1)) (ve_var (pv 8)))) (vg_nm (pg_name (i := 11) sc_law_home.nd rfl (by first | exact .inl rfl | exact .inr rfl)) ⟨_, rfl⟩ (by decide)) (vss_cons (vs_asg (ve_mul ve_int (ve_var (pv 10))) (vg_nm (pg_name (i := 10) sc_law_home.nd rfl (by first | exact .inl rfl | exact .inr rfl)) ⟨_, rfl⟩ (by decide))) vss_nil)) (vss_cons (vs_par (i := 13) (j := 14) rfl sc_law_home.nd rfl rfl (by decide) rfl rfl (va_cons (ve_add ve_int (vcall c_law_take hr (by decide) (by rfl) rfl (va_cons (ve_bor (pv 0)) (va_cons (ve_callB (call_max2 rfl) oc_max2 (by rfl) T.m_max boot_max (va_cons ve_int (va_cons (ve_callB (call_min2 rfl) oc_min2 (by rfl) T.m_min boot_min (va_cons (ve_var (pv 2)) (va_cons (ve_divW (ve_var (pv 3)) (ve_var (pv 10))) va_nil))) va_nil))) va_nil)))) (va_cons (ve_lst va_nil) va_nil)) rfl (by decide) (by decide)) (vss_kill [12] (vss_cons (vs_for PassesOwn.never rfl (vi_rg1 (by rfl) T.m_range (va_cons (ve_var (pv 13)) va_nil)) (vg_nm (pg_name (i := 12) sc_law_home.nd rfl (by first | exact .inl rfl | exact .inr rfl)) ⟨_, rfl⟩ (by decide)) (vss_cons (vs_if (vt_cmp op_eq oc_eqS (vcall c_law_take hr (by decide) (by rfl) rfl (va_cons (ve_bor (pv 0)) (va_cons (ve_var (pv 7)) va_nil))) ve_int (nomark _)) (vss_cons (vs_asg (ve_callTy call_tuple_of oc_tupOf (by rfl) T.m_tuple boot_tuple (va_cons (ve_lc (n := 16) (vs := [11]) rfl rfl rfl sc_law_home.nd (vi_lst (ve_var (pv 1))) (blkOk_by (own := [("_law_other", 11)]) (N := N_law_home) (sc := defScope s_law_home) (by decide +kernel)) (fun _ _ _ _ _ => (vg_nm (pg_name (i := 11) sc_law_home.nd rfl (by first | exact .inl rfl | exact .inr rfl)) ⟨_, rfl⟩ (by decide))) (fun _ _ _ _ _ => (vts_one (vt_cmp op_eq oc_eqS (vcall c_law_take hr (by decide) (by rfl) rfl (va_cons (ve_bor (pv 0)) (va_cons ve_int va_nil))) ve_int (nomark _)))) (fun _ _ _ _ _ => (ve_var (pv 11)))) va_nil)) (vg_nm (pg_name (i := 15) sc_law_home.nd rfl (by first | exact .inl rfl | exact .inr rfl)) ⟨_, rfl⟩ (by decide))) (vss_cons (vs_expr (ve_mut PySem.F.slot_list_append PySem.F.type_list_append mt_append mk_app (pv 14) (va_cons (ve_tup (va_cons (ve_var (pv 12)) (va_cons (ve_ixs (ve_bor (pv 4)) (vcall c_law_take hr (by decide) (by rfl) rfl (va_cons (ve_bor (pv 0)) (va_cons (ve_callB call_len oc_len (by rfl) T.m_len boot_len (va_cons (ve_bor (pv 4)) va_nil)) va_nil)))) (va_cons (ve_var (pv 15)) va_nil)))) va_nil))) vss_nil)) vss_nil) (vss_kill [12] vss_nil))) (vss_cons (vs_expr (ve_mut PySem.F.slot_list_append PySem.F.type_list_append mt_append mk_app (pv 5) (va_cons (ve_tup (va_cons (ve_var (pv 9)) (va_cons (ve_var (pv 13)) (va_cons (ve_callTy call_tuple_of oc_tupOf (by rfl) T.m_tuple boot_tuple (va_cons (ve_bor (pv 14)) va_nil)) va_nil)))) va_nil))) (vss_cons (vs_asg (ve_mul (ve_mul (ve_var (pv 6)) ve_int) (ve_var (pv 13))) (vg_nm (pg_name (i := 6) sc_law_home.nd rfl (by first | exact .inl rfl | exact .inr rfl)) ⟨_, rfl⟩ (by decide))) (vss_kill [8, 9, 10, 11, 12, 13, 14] vss_nil))))))))) (vss_cons (vs_ret (ve_callTy call_tuple_of oc_tupOf (by rfl) T.m_tuple boot_tuple (va_cons (ve_bor (pv 5)) va_nil))) vss_nil)))))) fun ss R hl hS => p_law_home ss R hl hS
abbrev N_law_some_home : List Str := ["_law_sack_here", "_law_words"]
theorem sc_law_some_home : FnScope N_law_some_home ["_law_sack_here"] (defScope s_law_some_home) := ⟨rfl, rfl, rfl, by decide +kernel, rfl, by decide +kernel, by decide +kernel⟩
theorem ok_law_some_home {fa : Addr} {fd : FuncData} (F : Fun K "_law_some_home" "_law_some_home" s_law_some_home fa fd) (T : Tx mg) (c_law_take : Cal Pg w K mg base 1 2 "_law_take" S_law_take []) (c_law_names : Cal Pg w K mg base 3 2 "_law_names" S_law_names []) (c_law_home : Cal Pg w K mg base 4 4 "_law_home" S_law_home []) : FnOk Pg w K mg base CX0 5 fa fd ["_law_sack_here"] (spO K 1 S_law_some_home) :=
  fn_ok (fx := [0]) (N := N_law_some_home) (k := 4) F sc_law_some_home rfl (fun cdv A outer s H E hr => show VSs _ _ _ tf_law_some_home from (vss_cons (vs_asg (vcall c_law_names hr (by decide) (by rfl) rfl (va_cons (ve_bor (pv 0)) (va_cons (ve_add ve_int (vcall c_law_take hr (by decide) (by rfl) rfl (va_cons (ve_bor (pv 0)) (va_cons ve_int va_nil)))) va_nil))) (vg_nm (pg_name (i := 1) sc_law_some_home.nd rfl (by first | exact .inl rfl | exact .inr rfl)) ⟨_, rfl⟩ (by decide))) (vss_cons (vs_ret (vcall c_law_home hr (by decide) (by rfl) rfl (va_cons (ve_bor (pv 0)) (va_cons (ve_frz (pv 1)) (va_cons (ve_ixs (ve_lst (va_cons ve_int (va_cons ve_int (va_cons ve_int va_nil)))) (vcall c_law_take hr (by decide) (by rfl) rfl (va_cons (ve_bor (pv 0)) (va_cons ve_int va_nil)))) (va_cons (ve_pow ve_int ve_int) va_nil)))))) vss_nil))) fun ss R hl hS => p_law_some_home ss R hl hS
abbrev N_law_sack : List Str := ["_law_script", "_law_base", "_law_seed", "_law_cell", "_law_great"]
theorem sc_law_sack : FnScope N_law_sack ["_law_script", "_law_base"] (defScope s_law_sack) := ⟨rfl, rfl, rfl, by decide +kernel, rfl, by decide +kernel, by decide +kernel⟩
theorem ok_law_sack {fa : Addr} {fd : FuncData} (F : Fun K "_law_sack" "_law_sack" s_law_sack fa fd) (T : Tx mg)  : FnOk Pg w K mg base CX0 1 fa fd ["_law_script", "_law_base"] (spO K 2 S_law_sack) :=
  fn_ok (fx := []) (N := N_law_sack) (k := 0) F sc_law_sack rfl (fun cdv A outer s H E hr => show VSs _ _ _ tf_law_sack from (vss_cons (vs_asg (ve_add ve_int (ve_mul ve_int (ve_var (pv 1)))) (vg_nm (pg_name (i := 2) sc_law_sack.nd rfl (by first | exact .inl rfl | exact .inr rfl)) ⟨_, rfl⟩ (by decide))) (vss_cons (vs_for PassesOwn.never rfl (vi_lst (ve_s01 (ve_var (pv 0)) ve_int)) (vg_nm (pg_name (i := 3) sc_law_sack.nd rfl (by first | exact .inl rfl | exact .inr rfl)) ⟨_, rfl⟩ (by decide)) (vss_cons (vs_asg (ve_mod (ve_add (ve_add (ve_mul (ve_var (pv 2)) ve_int) (ve_mod (ve_callB call_abs oc_abs (by rfl) T.m_abs boot_abs (va_cons (ve_var (pv 3)) va_nil)) ve_int)) ve_int) ve_int) (vg_nm (pg_name (i := 2) sc_law_sack.nd rfl (by first | exact .inl rfl | exact .inr rfl)) ⟨_, rfl⟩ (by decide))) vss_nil)) (vss_cons (vs_setLc (i := 4) (n := 5) (vs := [3]) rfl rfl (by decide) rfl sc_law_sack.nd rfl rfl (sw_true rfl rfl rfl (by decide +kernel)) (vi_lst (ve_s11 (ve_var (pv 0)) (ve_var (pv 1)) ve_int)) (blkOk_by (own := [("_law_cell", 3)]) (N := N_law_sack) (sc := defScope s_law_sack) (by decide +kernel)) (fun _ _ _ _ _ => (vg_nm (pg_name (i := 3) sc_law_sack.nd rfl (by first | exact .inl rfl | exact .inr rfl)) ⟨_, rfl⟩ (by decide))) (fun _ _ _ _ _ => (vts_one (vt_cmp op_ge oc_ge (ve_var (pv 3)) (ve_pow ve_int ve_int) (nomark _)))) (fun _ _ _ _ _ => (ve_var (pv 3)))) (vss_cons (vs_ret (ve_dk (ks := [.inr "great", .inr "now", .inr "seed", .inr "turn"]) (vps_cons (ve_rev (ve_bor (pv 4))) (vps_cons ve_int (vps_cons (ve_add (ve_var (pv 2)) ve_int) (vps_cons ve_int vps_nil)))) (by decide +kernel))) vss_nil))))) fun ss R hl hS => p_law_sack ss R hl hS
abbrev N_law_stand : List Str := ["_law_sack_here", "_law_home_here", "_law_name", "_law_long", "_law_bells"]
theorem sc_law_stand : FnScope N_law_stand ["_law_sack_here", "_law_home_here"] (defScope s_law_stand) := ⟨rfl, rfl, rfl, by decide +kernel, rfl, by decide +kernel, by decide +kernel⟩
theorem ok_law_stand {fa : Addr} {fd : FuncData} (F : Fun K "_law_stand" "_law_stand" s_law_stand fa fd) (T : Tx mg) (c_law_take : Cal Pg w K mg base 1 2 "_law_take" S_law_take []) : FnOk Pg w K mg base CX0 2 fa fd ["_law_sack_here", "_law_home_here"] (spO K 2 S_law_stand) :=
  fn_ok (fx := [0]) (N := N_law_stand) (k := 1) F sc_law_stand rfl (fun cdv A outer s H E hr => show VSs _ _ _ tf_law_stand from (vss_cons (vs_ret (ve_callTy call_tuple_of oc_tupOf (by rfl) T.m_tuple boot_tuple (va_cons (ve_lc (n := 5) (vs := [2, 3, 4]) rfl rfl rfl sc_law_stand.nd (vi_tup (ve_var (pv 1))) (blkOk_by (own := [("_law_name", 2), ("_law_long", 3), ("_law_bells", 4)]) (N := N_law_stand) (sc := defScope s_law_stand) (by decide +kernel)) (fun _ _ _ _ _ => (vg_tp rfl (vgs_cons (vg_nm (pg_name (i := 2) sc_law_stand.nd rfl (by first | exact .inl rfl | exact .inr rfl)) ⟨_, rfl⟩ (by decide)) (vgs_cons (vg_nm (pg_name (i := 3) sc_law_stand.nd rfl (by first | exact .inl rfl | exact .inr rfl)) ⟨_, rfl⟩ (by decide)) (vgs_cons (vg_nm (pg_name (i := 4) sc_law_stand.nd rfl (by first | exact .inl rfl | exact .inr rfl)) ⟨_, rfl⟩ (by decide)) vgs_nil))))) (fun _ _ _ _ _ => vts_nil) (fun _ _ _ _ _ => (ve_tup (va_cons (vcall c_law_take hr (by decide) (by rfl) rfl (va_cons (ve_bor (pv 0)) (va_cons (ve_var (pv 3)) va_nil))) (va_cons (ve_sub ve_int (ve_mul ve_int (vcall c_law_take hr (by decide) (by rfl) rfl (va_cons (ve_bor (pv 0)) (va_cons ve_int va_nil))))) va_nil))))) va_nil))) vss_nil)) fun ss R hl hS => p_law_stand ss R hl hS
abbrev N_law_called : List Str := ["_law_home_here", "_law_name", "_law_long", "_law_bells"]
theorem sc_law_called : FnScope N_law_called ["_law_home_here"] (defScope s_law_called) := ⟨rfl, rfl, rfl, by decide +kernel, rfl, by decide +kernel, by decide +kernel⟩
theorem ok_law_called {fa : Addr} {fd : FuncData} (F : Fun K "_law_called" "_law_called" s_law_called fa fd) (T : Tx mg)  : FnOk Pg w K mg base CX0 1 fa fd ["_law_home_here"] (spO K 1 S_law_called) :=
  fn_ok (fx := []) (N := N_law_called) (k := 0) F sc_law_called rfl (fun cdv A outer s H E hr => show VSs _ _ _ tf_law_called from (vss_cons (vs_ret (ve_lc (n := 4) (vs := [1, 2, 3]) rfl rfl rfl sc_law_called.nd (vi_tup (ve_var (pv 0))) (blkOk_by (own := [("_law_name", 1), ("_law_long", 2), ("_law_bells", 3)]) (N := N_law_called) (sc := defScope s_law_called) (by decide +kernel)) (fun _ _ _ _ _ => (vg_tp rfl (vgs_cons (vg_nm (pg_name (i := 1) sc_law_called.nd rfl (by first | exact .inl rfl | exact .inr rfl)) ⟨_, rfl⟩ (by decide)) (vgs_cons (vg_nm (pg_name (i := 2) sc_law_called.nd rfl (by first | exact .inl rfl | exact .inr rfl)) ⟨_, rfl⟩ (by decide)) (vgs_cons (vg_nm (pg_name (i := 3) sc_law_called.nd rfl (by first | exact .inl rfl | exact .inr rfl)) ⟨_, rfl⟩ (by decide)) vgs_nil))))) (fun _ _ _ _ _ => vts_nil) (fun _ _ _ _ _ => (ve_var (pv 1))))) vss_nil)) fun ss R hl hS => p_law_called ss R hl hS
abbrev N_law_deed : List Str := ["_law_sack_here", "_law_home_here", "_law_room", "_law_form", "_law_some"]
theorem sc_law_deed : FnScope N_law_deed ["_law_sack_here", "_law_home_here", "_law_room"] (defScope s_law_deed) := ⟨rfl, rfl, rfl, by decide +kernel, rfl, by decide +kernel, by decide +kernel⟩
theorem ok_law_deed {fa : Addr} {fd : FuncData} (F : Fun K "_law_deed" "_law_deed" s_law_deed fa fd) (T : Tx mg) (c_law_take : Cal Pg w K mg base 1 2 "_law_take" S_law_take []) (c_law_mixed : Cal Pg w K mg base 2 2 "_law_mixed" S_law_mixed []) (c_law_called : Cal Pg w K mg base 1 1 "_law_called" S_law_called []) : FnOk Pg w K mg base CX0 3 fa fd ["_law_sack_here", "_law_home_here", "_law_room"] (spO K 3 S_law_deed) :=
  fn_ok (fx := [0]) (N := N_law_deed) (k := 2) F sc_law_deed rfl (fun cdv A outer s H E hr => show VSs _ _ _ tf_law_deed from (vss_cons (vs_asg (vcall c_law_take hr (by decide) (by rfl) rfl (va_cons (ve_bor (pv 0)) (va_cons ve_int va_nil))) (vg_nm (pg_name (i := 3) sc_law_deed.nd rfl (by first | exact .inl rfl | exact .inr rfl)) ⟨_, rfl⟩ (by decide))) (vss_cons (vs_if (vt_cmp op_lt oc_lt (ve_var (pv 3)) ve_int (nomark _)) (vss_cons (vs_ret (ve_tup (va_cons ve_str (va_cons (vcall c_law_take hr (by decide) (by rfl) rfl (va_cons (ve_bor (pv 0)) (va_cons (ve_add ve_int (ve_callB (call_min2 rfl) oc_min2 (by rfl) T.m_min boot_min (va_cons (ve_var (pv 2)) (va_cons (ve_ixs (ve_lst (va_cons ve_int (va_cons ve_int va_nil))) (vcall c_law_take hr (by decide) (by rfl) rfl (va_cons (ve_bor (pv 0)) (va_cons ve_int va_nil)))) va_nil)))) va_nil))) va_nil)))) vss_nil) vss_nil) (vss_cons (vs_if (vt_cmp op_eq oc_eqS (ve_var (pv 3)) ve_int (nomark _)) (vss_cons (vs_ret (ve_tup (va_cons ve_str va_nil))) vss_nil) vss_nil) (vss_cons (vs_asg (ve_s01 (vcall c_law_mixed hr (by decide) (by rfl) rfl (va_cons (ve_bor (pv 0)) (va_cons (vcall c_law_called hr (by decide) (by rfl) rfl (va_cons (ve_var (pv 1)) va_nil)) va_nil))) (vcall c_law_take hr (by decide) (by rfl) rfl (va_cons (ve_bor (pv 0)) (va_cons (ve_add (ve_callB call_len oc_len (by rfl) T.m_len boot_len (va_cons (ve_var (pv 1)) va_nil)) ve_int) va_nil)))) (vg_nm (pg_name (i := 4) sc_law_deed.nd rfl (by first | exact .inl rfl | exact .inr rfl)) ⟨_, rfl⟩ (by decide))) (vss_cons (vs_ret (ve_tup (va_cons ve_str (va_cons (ve_ifE (vt_cmp op_eq oc_eqS (vcall c_law_take hr (by decide) (by rfl) rfl (va_cons (ve_bor (pv 0)) (va_cons ve_int va_nil))) ve_int (nomark _)) (ve_frz (pv 4)) (ve_callTy call_tuple_of oc_tupOf (by rfl) T.m_tuple boot_tuple (va_cons (ve_bor (pv 4)) va_nil))) va_nil)))) vss_nil)))))) fun ss R hl hS => p_law_deed ss R hl hS
abbrev N_law_beats_in : List Str := ["_law_deeds_here", "_law_deed_here"]
theorem sc_law_beats_in : FnScope N_law_beats_in ["_law_deeds_here"] (defScope s_law_beats_in) := ⟨rfl, rfl, rfl, by decide +kernel, rfl, by decide +kernel, by decide +kernel⟩
theorem ok_law_beats_in {fa : Addr} {fd : FuncData} (F : Fun K "_law_beats_in" "_law_beats_in" s_law_beats_in fa fd) (T : Tx mg)  : FnOk Pg w K mg base CX0 1 fa fd ["_law_deeds_here"] (spO K 1 S_law_beats_in) :=
  fn_ok (fx := []) (N := N_law_beats_in) (k := 0) F sc_law_beats_in rfl (fun cdv A outer s H E hr => show VSs _ _ _ tf_law_beats_in from (vss_cons (vs_ret (ve_callB (cr_sum rfl) oc_sum (by rfl) T.m_sum boot_sum (va_cons (ve_lc (n := 2) (vs := [1]) rfl rfl rfl sc_law_beats_in.nd (vi_lst (ve_var (pv 0))) (blkOk_by (own := [("_law_deed_here", 1)]) (N := N_law_beats_in) (sc := defScope s_law_beats_in) (by decide +kernel)) (fun _ _ _ _ _ => (vg_nm (pg_name (i := 1) sc_law_beats_in.nd rfl (by first | exact .inl rfl | exact .inr rfl)) ⟨_, rfl⟩ (by decide))) (fun _ _ _ _ _ => (vts_one (vt_cmp op_eq oc_eqS (ve_ixs (ve_var (pv 1)) ve_int) ve_str (nomark _)))) (fun _ _ _ _ _ => (ve_ixs (ve_var (pv 1)) ve_int))) va_nil))) vss_nil)) fun ss R hl hS => p_law_beats_in ss R hl hS
abbrev N_law_deeds : List Str := ["_law_sack_here", "_law_home_here", "_law_many", "_law_found", "_law_turn", "_law_at"]
theorem sc_law_deeds : FnScope N_law_deeds ["_law_sack_here", "_law_home_here", "_law_many"] (defScope s_law_deeds) := ⟨rfl, rfl, rfl, by decide +kernel, rfl, by decide +kernel, by decide +kernel⟩
theorem ok_law_deeds {fa : Addr} {fd : FuncData} (F : Fun K "_law_deeds" "_law_deeds" s_law_deeds fa fd) (T : Tx mg) (c_law_take : Cal Pg w K mg base 1 2 "_law_take" S_law_take []) (c_law_deed : Cal Pg w K mg base 3 3 "_law_deed" S_law_deed []) (c_law_beats_in : Cal Pg w K mg base 1 1 "_law_beats_in" S_law_beats_in []) : FnOk Pg w K mg base CX0 4 fa fd ["_law_sack_here", "_law_home_here", "_law_many"] (spO K 3 S_law_deeds) :=
  fn_ok (fx := [0]) (N := N_law_deeds) (k := 3) F sc_law_deeds rfl (fun cdv A outer s H E hr => show VSs _ _ _ tf_law_deeds from (vss_cons (vs_asg (ve_lst va_nil) (vg_nm (pg_name (i := 3) sc_law_deeds.nd rfl (by first | exact .inl rfl | exact .inr rfl)) ⟨_, rfl⟩ (by decide))) (vss_kill [4] (vss_cons (vs_for PassesOwn.never rfl (vi_rg1 (by rfl) T.m_range (va_cons (ve_var (pv 2)) va_nil)) (vg_nm (pg_name (i := 4) sc_law_deeds.nd rfl (by first | exact .inl rfl | exact .inr rfl)) ⟨_, rfl⟩ (by decide)) (vss_cons (vs_expr (ve_mut PySem.F.slot_list_append PySem.F.type_list_append mt_append mk_app (pv 3) (va_cons (vcall c_law_deed hr (by decide) (by rfl) rfl (va_cons (ve_bor (pv 0)) (va_cons (ve_var (pv 1)) (va_cons (ve_sub ve_int (vcallB c_law_beats_in hr (by decide) (by rfl) (va_cons (ve_bor (pv 3)) va_nil))) va_nil)))) va_nil))) (vss_kill [4] vss_nil))) (vss_cons (vs_if (vt_w (vw_and (vt_cmp op_eq oc_eqS (vcall c_law_take hr (by decide) (by rfl) rfl (va_cons (ve_bor (pv 0)) (va_cons ve_int va_nil))) ve_int (nomark _)) (vw_and1 (vt_cmp op_lt oc_lt (ve_var (pv 2)) ve_int (nomark _))))) (vss_cons (vs_asg (vcall c_law_take hr (by decide) (by rfl) rfl (va_cons (ve_bor (pv 0)) (va_cons (ve_add (ve_callB call_len oc_len (by rfl) T.m_len boot_len (va_cons (ve_bor (pv 3)) va_nil)) ve_int) va_nil))) (vg_nm (pg_name (i := 5) sc_law_deeds.nd rfl (by first | exact .inl rfl | exact .inr rfl)) ⟨_, rfl⟩ (by decide))) (vss_cons (vs_asg (ve_catL (ve_catL (ve_s01 (ve_bor (pv 3)) (ve_var (pv 5))) (ve_lst (va_cons (ve_tup (va_cons ve_str (va_cons (vcall c_law_take hr (by decide) (by rfl) rfl (va_cons (ve_bor (pv 0)) (va_cons ve_int va_nil))) va_nil))) va_nil))) (ve_s10 (ve_bor (pv 3)) (ve_var (pv 5)))) (vg_nm (pg_name (i := 3) sc_law_deeds.nd rfl (by first | exact .inl rfl | exact .inr rfl)) ⟨_, rfl⟩ (by decide))) vss_nil)) vss_nil) (vss_cons (vs_ret (ve_mv (pv 3))) vss_nil)))))) fun ss R hl hS => p_law_deeds ss R hl hS
abbrev N_bells_here : List Str := ["house", "standing", "found", "name", "long", "bells", "place", "way", "bell"]
theorem sc_bells_here : FnScope N_bells_here ["house", "standing"] (defScope s_bells_here) := ⟨rfl, rfl, rfl, by decide +kernel, rfl, by decide +kernel, by decide +kernel⟩
theorem ok_bells_here {fa : Addr} {fd : FuncData} (F : Fun K "bells_here" "bells_here" s_bells_here fa fd) (T : Tx mg)  : FnOk Pg w K mg base CX0 1 fa fd ["house", "standing"] (spO K 2 S_bells_here) :=
  fn_ok (fx := []) (N := N_bells_here) (k := 0) F sc_bells_here rfl (fun cdv A outer s H E hr => show VSs _ _ _ tf_bells_here from (vss_cons (vs_asg (ve_lst va_nil) (vg_nm (pg_name (i := 2) sc_bells_here.nd rfl (by first | exact .inl rfl | exact .inr rfl)) ⟨_, rfl⟩ (by decide))) (vss_kill [3, 4, 5, 6, 7] (vss_cons (vs_for PassesOwn.never rfl (vi_zip (va_cons (ve_var (pv 0)) (va_cons (ve_var (pv 1)) va_nil)) (by rfl) T.m_zip) (vg_tp rfl (vgs_cons (vg_tp rfl (vgs_cons (vg_nm (pg_name (i := 3) sc_bells_here.nd rfl (by first | exact .inl rfl | exact .inr rfl)) ⟨_, rfl⟩ (by decide)) (vgs_cons (vg_nm (pg_name (i := 4) sc_bells_here.nd rfl (by first | exact .inl rfl | exact .inr rfl)) ⟨_, rfl⟩ (by decide)) (vgs_cons (vg_nm (pg_name (i := 5) sc_bells_here.nd rfl (by first | exact .inl rfl | exact .inr rfl)) ⟨_, rfl⟩ (by decide)) vgs_nil)))) (vgs_cons (vg_tp rfl (vgs_cons (vg_nm (pg_name (i := 6) sc_bells_here.nd rfl (by first | exact .inl rfl | exact .inr rfl)) ⟨_, rfl⟩ (by decide)) (vgs_cons (vg_nm (pg_name (i := 7) sc_bells_here.nd rfl (by first | exact .inl rfl | exact .inr rfl)) ⟨_, rfl⟩ (by decide)) vgs_nil))) vgs_nil))) (vss_cons (vs_expr (ve_mut PySem.F.slot_list_extend PySem.F.type_list_extend mt_ext mk_ext (pv 2) (va_cons (ve_lc (n := 9) (vs := [8]) rfl rfl rfl sc_bells_here.nd (vi_tup (ve_var (pv 5))) (blkOk_by (own := [("bell", 8)]) (N := N_bells_here) (sc := defScope s_bells_here) (by decide +kernel)) (fun _ _ _ _ _ => (vg_nm (pg_name (i := 8) sc_bells_here.nd rfl (by first | exact .inl rfl | exact .inr rfl)) ⟨_, rfl⟩ (by decide))) (fun _ _ _ _ _ => (vts_one (vt_cmp op_eq oc_eqS (ve_ixs (ve_var (pv 8)) ve_int) (ve_var (pv 6)) (nomark _)))) (fun _ _ _ _ _ => (ve_var (pv 8)))) va_nil))) (vss_kill [3, 4, 5, 6, 7] vss_nil))) (vss_cons (vs_ret (ve_mv (pv 2))) vss_nil))))) fun ss R hl hS => p_bells_here ss R hl hS
abbrev N_heard : List Str := ["house", "standing", "place", "sound", "told"]
theorem sc_heard : FnScope N_heard ["house", "standing"] (defScope s_heard) := ⟨rfl, rfl, rfl, by decide +kernel, rfl, by decide +kernel, by decide +kernel⟩
theorem ok_heard {fa : Addr} {fd : FuncData} (F : Fun K "heard" "heard" s_heard fa fd) (T : Tx mg) (c_bells_here : Cal Pg w K mg base 1 2 "bells_here" S_bells_here []) : FnOk Pg w K mg base CX0 2 fa fd ["house", "standing"] (spO K 2 S_heard) :=
  fn_ok (fx := []) (N := N_heard) (k := 1) F sc_heard rfl (fun cdv A outer s H E hr => show VSs _ _ _ tf_heard from (vss_cons (vs_ret (ve_callTy call_tuple_of oc_tupOf (by rfl) T.m_tuple boot_tuple (va_cons (ve_callB cr_sortedS oc_sortS (by rfl) T.m_sorted boot_sorted (va_cons (ve_lc (n := 5) (vs := [2, 3, 4]) rfl rfl rfl sc_heard.nd (vi_lst (vcall c_bells_here hr (by decide) (by rfl) rfl (va_cons (ve_var (pv 0)) (va_cons (ve_var (pv 1)) va_nil)))) (blkOk_by (own := [("place", 2), ("sound", 3), ("told", 4)]) (N := N_heard) (sc := defScope s_heard) (by decide +kernel)) (fun _ _ _ _ _ => (vg_tp rfl (vgs_cons (vg_nm (pg_name (i := 2) sc_heard.nd rfl (by first | exact .inl rfl | exact .inr rfl)) ⟨_, rfl⟩ (by decide)) (vgs_cons (vg_nm (pg_name (i := 3) sc_heard.nd rfl (by first | exact .inl rfl | exact .inr rfl)) ⟨_, rfl⟩ (by decide)) (vgs_cons (vg_nm (pg_name (i := 4) sc_heard.nd rfl (by first | exact .inl rfl | exact .inr rfl)) ⟨_, rfl⟩ (by decide)) vgs_nil))))) (fun _ _ _ _ _ => (vts_one (vt_cmp op_ne oc_neS (ve_var (pv 3)) ve_str (nomark _)))) (fun _ _ _ _ _ => (ve_var (pv 3)))) va_nil)) va_nil))) vss_nil)) fun ss R hl hS => p_heard ss R hl hS
abbrev N_names_of : List Str := ["house", "name", "rest"]
theorem sc_names_of : FnScope N_names_of ["house"] (defScope s_names_of) := ⟨rfl, rfl, rfl, by decide +kernel, rfl, by decide +kernel, by decide +kernel⟩
theorem ok_names_of {fa : Addr} {fd : FuncData} (F : Fun K "names_of" "names_of" s_names_of fa fd) (T : Tx mg)  : FnOk Pg w K mg base CX0 1 fa fd ["house"] (spO K 1 S_names_of) :=
  fn_ok (fx := []) (N := N_names_of) (k := 0) F sc_names_of rfl (fun cdv A outer s H E hr => show VSs _ _ _ tf_names_of from (vss_cons (vs_ret (ve_callTy call_tuple_of oc_tupOf (by rfl) T.m_tuple boot_tuple (va_cons (ve_lc (n := 3) (vs := [1, 2]) rfl rfl rfl sc_names_of.nd (vi_tup (ve_var (pv 0))) (blkOk_by (own := [("name", 1), ("rest", 2)]) (N := N_names_of) (sc := defScope s_names_of) (by decide +kernel)) (fun _ _ _ _ _ => (vg_hd rfl sc_names_of.nd (j := 2) rfl (by first | exact .inl rfl | exact .inr rfl) (vg_nm (pg_name (i := 1) sc_names_of.nd rfl (by first | exact .inl rfl | exact .inr rfl)) ⟨_, rfl⟩ (by decide)) (by decide))) (fun _ _ _ _ _ => vts_nil) (fun _ _ _ _ _ => (ve_var (pv 1)))) va_nil))) vss_nil)) fun ss R hl hS => p_names_of ss R hl hS
abbrev N_turned : List Str := ["house", "standing", "names", "own", "name", "place", "way"]
theorem sc_turned : FnScope N_turned ["house", "standing", "names"] (defScope s_turned) := ⟨rfl, rfl, rfl, by decide +kernel, rfl, by decide +kernel, by decide +kernel⟩
theorem ok_turned {fa : Addr} {fd : FuncData} (F : Fun K "turned" "turned" s_turned fa fd) (T : Tx mg) (c_names_of : Cal Pg w K mg base 1 1 "names_of" S_names_of []) : FnOk Pg w K mg base CX0 2 fa fd ["house", "standing", "names"] (spO K 3 S_turned) :=
  fn_ok (fx := []) (N := N_turned) (k := 1) F sc_turned rfl (fun cdv A outer s H E hr => show VSs _ _ _ tf_turned from (vss_cons (vs_asg (vcall c_names_of hr (by decide) (by rfl) rfl (va_cons (ve_var (pv 0)) va_nil)) (vg_nm (pg_name (i := 3) sc_turned.nd rfl (by first | exact .inl rfl | exact .inr rfl)) ⟨_, rfl⟩ (by decide))) (vss_cons (vs_for PassesOwn.never rfl (vi_any (ve_var (pv 2))) (vg_nm (pg_name (i := 4) sc_turned.nd rfl (by first | exact .inl rfl | exact .inr rfl)) ⟨_, rfl⟩ (by decide)) (vss_cons (vs_if (vt_cmp op_notIn_seq oc_notInD (ve_var (pv 4)) (ve_var (pv 3)) rfl) vss_never vss_nil) vss_nil)) (vss_cons (vs_ret (ve_callTy call_tuple_of oc_tupOf (by rfl) T.m_tuple boot_tuple (va_cons (ve_lc (n := 7) (vs := [4, 5, 6]) rfl rfl rfl sc_turned.nd (vi_zip (va_cons (ve_var (pv 3)) (va_cons (ve_var (pv 1)) va_nil)) (by rfl) T.m_zip) (blkOk_by (own := [("name", 4), ("place", 5), ("way", 6)]) (N := N_turned) (sc := defScope s_turned) (by decide +kernel)) (fun _ _ _ _ _ => (vg_tp rfl (vgs_cons (vg_nm (pg_name (i := 4) sc_turned.nd rfl (by first | exact .inl rfl | exact .inr rfl)) ⟨_, rfl⟩ (by decide)) (vgs_cons (vg_tp rfl (vgs_cons (vg_nm (pg_name (i := 5) sc_turned.nd rfl (by first | exact .inl rfl | exact .inr rfl)) ⟨_, rfl⟩ (by decide)) (vgs_cons (vg_nm (pg_name (i := 6) sc_turned.nd rfl (by first | exact .inl rfl | exact .inr rfl)) ⟨_, rfl⟩ (by decide)) vgs_nil))) vgs_nil)))) (fun _ _ _ _ _ => vts_nil) (fun _ _ _ _ _ => (ve_tup (va_cons (ve_var (pv 5)) (va_cons (ve_ifE (vt_cmp op_in_seq oc_inD (ve_var (pv 4)) (ve_var (pv 2)) rfl) (ve_neg (ve_var (pv 6))) (ve_var (pv 6))) va_nil))))) va_nil))) vss_nil)))) fun ss R hl hS => p_turned ss R hl hS
abbrev N_told_oddly : List Str := ["house", "standing", "called", "place", "sound", "told", "name"]
theorem sc_told_oddly : FnScope N_told_oddly ["house", "standing"] (defScope s_told_oddly) := ⟨rfl, rfl, rfl, by decide +kernel, rfl, by decide +kernel, by decide +kernel⟩
theorem ok_told_oddly {fa : Addr} {fd : FuncData} (F : Fun K "told_oddly" "told_oddly" s_told_oddly fa fd) (T : Tx mg) (c_bells_here : Cal Pg w K mg base 1 2 "bells_here" S_bells_here []) (c_names_of : Cal Pg w K mg base 1 1 "names_of" S_names_of []) : FnOk Pg w K mg base CX0 2 fa fd ["house", "standing"] (spO K 2 S_told_oddly) :=
  fn_ok (fx := []) (N := N_told_oddly) (k := 1) F sc_told_oddly rfl (fun cdv A outer s H E hr => show VSs _ _ _ tf_told_oddly from (vss_cons (vs_asg (ve_lst va_nil) (vg_nm (pg_name (i := 2) sc_told_oddly.nd rfl (by first | exact .inl rfl | exact .inr rfl)) ⟨_, rfl⟩ (by decide))) (vss_kill [3, 4, 5] (vss_cons (vs_for PassesOwn.never rfl (vi_lst (vcall c_bells_here hr (by decide) (by rfl) rfl (va_cons (ve_var (pv 0)) (va_cons (ve_var (pv 1)) va_nil)))) (vg_tp rfl (vgs_cons (vg_nm (pg_name (i := 3) sc_told_oddly.nd rfl (by first | exact .inl rfl | exact .inr rfl)) ⟨_, rfl⟩ (by decide)) (vgs_cons (vg_nm (pg_name (i := 4) sc_told_oddly.nd rfl (by first | exact .inl rfl | exact .inr rfl)) ⟨_, rfl⟩ (by decide)) (vgs_cons (vg_nm (pg_name (i := 5) sc_told_oddly.nd rfl (by first | exact .inl rfl | exact .inr rfl)) ⟨_, rfl⟩ (by decide)) vgs_nil)))) (vss_cons (vs_expr (ve_mut PySem.F.slot_list_extend PySem.F.type_list_extend mt_ext mk_ext (pv 2) (va_cons (ve_var (pv 5)) va_nil))) (vss_kill [3, 4, 5] vss_nil))) (vss_cons (vs_ret (ve_callTy call_tuple_of oc_tupOf (by rfl) T.m_tuple boot_tuple (va_cons (ve_lc (n := 7) (vs := [6]) rfl rfl rfl sc_told_oddly.nd (vi_tup (vcall c_names_of hr (by decide) (by rfl) rfl (va_cons (ve_var (pv 0)) va_nil))) (blkOk_by (own := [("name", 6)]) (N := N_told_oddly) (sc := defScope s_told_oddly) (by decide +kernel)) (fun _ _ _ _ _ => (vg_nm (pg_name (i := 6) sc_told_oddly.nd rfl (by first | exact .inl rfl | exact .inr rfl)) ⟨_, rfl⟩ (by decide))) (fun _ _ _ _ _ => (vts_one (vt_cmp op_eq oc_eqS (ve_mod (ve_lsm PySem.F.slot_list_count PySem.F.type_list_count mt_countS oc_countS (ve_bor (pv 2)) (va_cons (ve_var (pv 6)) va_nil)) ve_int) ve_int (nomark _)))) (fun _ _ _ _ _ => (ve_var (pv 6)))) va_nil))) vss_nil))))) fun ss R hl hS => p_told_oddly ss R hl hS
abbrev N_rung : List Str := ["house", "standing"]
theorem sc_rung : FnScope N_rung ["house", "standing"] (defScope s_rung) := ⟨rfl, rfl, rfl, by decide +kernel, rfl, by decide +kernel, by decide +kernel⟩
theorem ok_rung {fa : Addr} {fd : FuncData} (F : Fun K "rung" "rung" s_rung fa fd) (T : Tx mg) (c_turned : Cal Pg w K mg base 2 3 "turned" S_turned []) (c_told_oddly : Cal Pg w K mg base 2 2 "told_oddly" S_told_oddly []) : FnOk Pg w K mg base CX0 3 fa fd ["house", "standing"] (spO K 2 S_rung) :=
  fn_ok (fx := []) (N := N_rung) (k := 2) F sc_rung rfl (fun cdv A outer s H E hr => show VSs _ _ _ tf_rung from (vss_cons (vs_ret (vcall c_turned hr (by decide) (by rfl) rfl (va_cons (ve_var (pv 0)) (va_cons (ve_var (pv 1)) (va_cons (vcall c_told_oddly hr (by decide) (by rfl) rfl (va_cons (ve_var (pv 0)) (va_cons (ve_var (pv 1)) va_nil))) va_nil))))) vss_nil)) fun ss R hl hS => p_rung ss R hl hS
abbrev N_stepped : List Str := ["house", "standing", "k", "place", "way"]
theorem sc_stepped : FnScope N_stepped ["house", "standing"] (defScope s_stepped) := ⟨rfl, rfl, rfl, by decide +kernel, rfl, by decide +kernel, by decide +kernel⟩
theorem ok_stepped {fa : Addr} {fd : FuncData} (F : Fun K "stepped" "stepped" s_stepped fa fd) (T : Tx mg)  : FnOk Pg w K mg base CX0 1 fa fd ["house", "standing"] (spO K 2 S_stepped) :=
  fn_ok (fx := []) (N := N_stepped) (k := 0) F sc_stepped rfl (fun cdv A outer s H E hr => show VSs _ _ _ tf_stepped from (vss_cons (vs_ret (ve_callTy call_tuple_of oc_tupOf (by rfl) T.m_tuple boot_tuple (va_cons (ve_lc (n := 5) (vs := [2, 3, 4]) rfl rfl rfl sc_stepped.nd (vi_enu (va_cons (ve_var (pv 1)) va_nil) (by rfl) T.m_enumerate) (blkOk_by (own := [("k", 2), ("place", 3), ("way", 4)]) (N := N_stepped) (sc := defScope s_stepped) (by decide +kernel)) (fun _ _ _ _ _ => (vg_tp rfl (vgs_cons (vg_nm (pg_name (i := 2) sc_stepped.nd rfl (by first | exact .inl rfl | exact .inr rfl)) ⟨_, rfl⟩ (by decide)) (vgs_cons (vg_tp rfl (vgs_cons (vg_nm (pg_name (i := 3) sc_stepped.nd rfl (by first | exact .inl rfl | exact .inr rfl)) ⟨_, rfl⟩ (by decide)) (vgs_cons (vg_nm (pg_name (i := 4) sc_stepped.nd rfl (by first | exact .inl rfl | exact .inr rfl)) ⟨_, rfl⟩ (by decide)) vgs_nil))) vgs_nil)))) (fun _ _ _ _ _ => vts_nil) (fun _ _ _ _ _ => (ve_tup (va_cons (ve_mod (ve_add (ve_var (pv 3)) (ve_var (pv 4))) (ve_ixs (ve_ixs (ve_var (pv 0)) (ve_var (pv 2))) ve_int)) (va_cons (ve_var (pv 4)) va_nil))))) va_nil))) vss_nil)) fun ss R hl hS => p_stepped ss R hl hS
abbrev N_beaten : List Str := ["house", "standing", "beats", "beat"]
theorem sc_beaten : FnScope N_beaten ["house", "standing", "beats"] (defScope s_beaten) := ⟨rfl, rfl, rfl, by decide +kernel, rfl, by decide +kernel, by decide +kernel⟩
theorem ok_beaten {fa : Addr} {fd : FuncData} (F : Fun K "beaten" "beaten" s_beaten fa fd) (T : Tx mg) (c_rung : Cal Pg w K mg base 3 2 "rung" S_rung []) (c_stepped : Cal Pg w K mg base 1 2 "stepped" S_stepped []) : FnOk Pg w K mg base CX0 4 fa fd ["house", "standing", "beats"] (spO K 3 S_beaten) :=
  fn_ok (fx := []) (N := N_beaten) (k := 3) F sc_beaten rfl (fun cdv A outer s H E hr => show VSs _ _ _ tf_beaten from (vss_kill [3] (vss_cons (vs_for PassesOwn.never rfl (vi_rg1 (by rfl) T.m_range (va_cons (ve_var (pv 2)) va_nil)) (vg_nm (pg_name (i := 3) sc_beaten.nd rfl (by first | exact .inl rfl | exact .inr rfl)) ⟨_, rfl⟩ (by decide)) (vss_cons (vs_asg (vcall c_rung hr (by decide) (by rfl) rfl (va_cons (ve_var (pv 0)) (va_cons (vcall c_stepped hr (by decide) (by rfl) rfl (va_cons (ve_var (pv 0)) (va_cons (ve_var (pv 1)) va_nil))) va_nil))) (vg_nm (pg_name (i := 1) sc_beaten.nd rfl (by first | exact .inl rfl | exact .inr rfl)) ⟨_, rfl⟩ (by decide))) (vss_kill [3] vss_nil))) (vss_cons (vs_ret (ve_var (pv 1))) vss_nil)))) fun ss R hl hS => p_beaten ss R hl hS
abbrev N_passed : List Str := ["house", "standing", "beats", "found", "beat"]
theorem sc_passed : FnScope N_passed ["house", "standing", "beats"] (defScope s_passed) := ⟨rfl, rfl, rfl, by decide +kernel, rfl, by decide +kernel, by decide +kernel⟩
theorem ok_passed {fa : Addr} {fd : FuncData} (F : Fun K "passed" "passed" s_passed fa fd) (T : Tx mg)  (k_beaten_2_ : CalK Pg w K mg base 4 3 "beaten" S_beaten 2 [] [.a 0, .a 1, .d (.int 1)]) : FnOk Pg w K mg base CX0 5 fa fd ["house", "standing", "beats"] (spO K 3 S_passed) :=
  fn_ok (fx := []) (N := N_passed) (k := 4) F sc_passed rfl (fun cdv A outer s H E hr => show VSs _ _ _ tf_passed from (vss_cons (vs_asg (ve_lst (va_cons (ve_var (pv 1)) va_nil)) (vg_nm (pg_name (i := 3) sc_passed.nd rfl (by first | exact .inl rfl | exact .inr rfl)) ⟨_, rfl⟩ (by decide))) (vss_kill [4] (vss_cons (vs_for PassesOwn.never rfl (vi_rg1 (by rfl) T.m_range (va_cons (ve_var (pv 2)) va_nil)) (vg_nm (pg_name (i := 4) sc_passed.nd rfl (by first | exact .inl rfl | exact .inr rfl)) ⟨_, rfl⟩ (by decide)) (vss_cons (vs_expr (ve_mut PySem.F.slot_list_append PySem.F.type_list_append mt_append mk_app (pv 3) (va_cons (vkcall k_beaten_2_ hr (by decide) (by rfl) rfl rfl (va_cons (ve_var (pv 0)) (va_cons (ve_ixs (ve_bor (pv 3)) (ve_neg ve_int)) va_nil)) vk_nil) va_nil))) (vss_kill [4] vss_nil))) (vss_cons (vs_ret (ve_mv (pv 3))) vss_nil))))) fun ss R hl hS => p_passed ss R hl hS
abbrev N_hearing : List Str := ["house", "standing", "beats", "one"]
theorem sc_hearing : FnScope N_hearing ["house", "standing", "beats"] (defScope s_hearing) := ⟨rfl, rfl, rfl, by decide +kernel, rfl, by decide +kernel, by decide +kernel⟩
theorem ok_hearing {fa : Addr} {fd : FuncData} (F : Fun K "hearing" "hearing" s_hearing fa fd) (T : Tx mg) (c_heard : Cal Pg w K mg base 2 2 "heard" S_heard []) (c_passed : Cal Pg w K mg base 5 3 "passed" S_passed []) : FnOk Pg w K mg base CX0 6 fa fd ["house", "standing", "beats"] (spO K 3 S_hearing) :=
  fn_ok (fx := []) (N := N_hearing) (k := 5) F sc_hearing rfl (fun cdv A outer s H E hr => show VSs _ _ _ tf_hearing from (vss_cons (vs_ret (ve_lc (n := 4) (vs := [3]) rfl rfl rfl sc_hearing.nd (vi_lst (vcall c_passed hr (by decide) (by rfl) rfl (va_cons (ve_var (pv 0)) (va_cons (ve_var (pv 1)) (va_cons (ve_var (pv 2)) va_nil))))) (blkOk_by (own := [("one", 3)]) (N := N_hearing) (sc := defScope s_hearing) (by decide +kernel)) (fun _ _ _ _ _ => (vg_nm (pg_name (i := 3) sc_hearing.nd rfl (by first | exact .inl rfl | exact .inr rfl)) ⟨_, rfl⟩ (by decide))) (fun _ _ _ _ _ => vts_nil) (fun _ _ _ _ _ => (vcall c_heard hr (by decide) (by rfl) rfl (va_cons (ve_var (pv 0)) (va_cons (ve_var (pv 3)) va_nil)))))) vss_nil)) fun ss R hl hS => p_hearing ss R hl hS
abbrev N_deed_done : List Str := ["house", "standing", "deed"]
theorem sc_deed_done : FnScope N_deed_done ["house", "standing", "deed"] (defScope s_deed_done) := ⟨rfl, rfl, rfl, by decide +kernel, rfl, by decide +kernel, by decide +kernel⟩
theorem ok_deed_done {fa : Addr} {fd : FuncData} (F : Fun K "deed_done" "deed_done" s_deed_done fa fd) (T : Tx mg) (c_turned : Cal Pg w K mg base 2 3 "turned" S_turned []) (c_rung : Cal Pg w K mg base 3 2 "rung" S_rung []) (c_hearing : Cal Pg w K mg base 6 3 "hearing" S_hearing []) (k_beaten_2_beats : CalK Pg w K mg base 4 3 "beaten" S_beaten 2 ["beats"] [.a 0, .a 1, .a 2]) : FnOk Pg w K mg base CX0 7 fa fd ["house", "standing", "deed"] (spO K 3 S_deed_done) :=
  fn_ok (fx := []) (N := N_deed_done) (k := 6) F sc_deed_done rfl (fun cdv A outer s H E hr => show VSs _ _ _ tf_deed_done from (vss_cons (vs_if (vt_cmp op_eq oc_eqS (ve_ixs (ve_var (pv 2)) ve_int) ve_str (nomark _)) (vss_cons (vs_ret (ve_tup (va_cons (vcall c_turned hr (by decide) (by rfl) rfl (va_cons (ve_var (pv 0)) (va_cons (ve_var (pv 1)) (va_cons (ve_ixs (ve_var (pv 2)) ve_int) va_nil)))) (va_cons (ve_fz (ve_lst va_nil)) va_nil)))) vss_nil) vss_nil) (vss_cons (vs_if (vt_cmp op_eq oc_eqS (ve_ixs (ve_var (pv 2)) ve_int) ve_str (nomark _)) (vss_cons (vs_ret (ve_tup (va_cons (vcall c_rung hr (by decide) (by rfl) rfl (va_cons (ve_var (pv 0)) (va_cons (ve_var (pv 1)) va_nil))) (va_cons (ve_fz (ve_lst va_nil)) va_nil)))) vss_nil) vss_nil) (vss_cons (vs_ret (ve_tup (va_cons (vkcall k_beaten_2_beats hr (by decide) (by rfl) rfl rfl (va_cons (ve_var (pv 0)) (va_cons (ve_var (pv 1)) va_nil)) (vk_cons (ve_ixs (ve_var (pv 2)) ve_int) vk_nil)) (va_cons (ve_fz (ve_s10 (vcall c_hearing hr (by decide) (by rfl) rfl (va_cons (ve_var (pv 0)) (va_cons (ve_var (pv 1)) (va_cons (ve_ixs (ve_var (pv 2)) ve_int) va_nil)))) ve_int)) va_nil)))) vss_nil)))) fun ss R hl hS => p_deed_done ss R hl hS
abbrev N_doneX : List Str := ["house", "standing", "history", "rows", "deed", "more"]
theorem sc_doneX : FnScope N_doneX ["house", "standing", "history"] (defScope s_doneX) := ⟨rfl, rfl, rfl, by decide +kernel, rfl, by decide +kernel, by decide +kernel⟩
theorem ok_doneX {fa : Addr} {fd : FuncData} (F : Fun K "done" "done" s_doneX fa fd) (T : Tx mg) (c_heard : Cal Pg w K mg base 2 2 "heard" S_heard []) (c_deed_done : Cal Pg w K mg base 7 3 "deed_done" S_deed_done []) : FnOk Pg w K mg base CX0 8 fa fd ["house", "standing", "history"] (spO K 3 S_doneX) :=
  fn_ok (fx := []) (N := N_doneX) (k := 7) F sc_doneX rfl (fun cdv A outer s H E hr => show VSs _ _ _ tf_doneX from (vss_cons (vs_asg (ve_lst (va_cons (vcall c_heard hr (by decide) (by rfl) rfl (va_cons (ve_var (pv 0)) (va_cons (ve_var (pv 1)) va_nil))) va_nil)) (vg_nm (pg_name (i := 3) sc_doneX.nd rfl (by first | exact .inl rfl | exact .inr rfl)) ⟨_, rfl⟩ (by decide))) (vss_kill [4, 5] (vss_cons (vs_for PassesOwn.never rfl (vi_any (ve_frz (pv 2))) (vg_nm (pg_name (i := 4) sc_doneX.nd rfl (by first | exact .inl rfl | exact .inr rfl)) ⟨_, rfl⟩ (by decide)) (vss_cons (vs_asg (vcall c_deed_done hr (by decide) (by rfl) rfl (va_cons (ve_var (pv 0)) (va_cons (ve_var (pv 1)) (va_cons (ve_var (pv 4)) va_nil)))) (vg_tp rfl (vgs_cons (vg_nm (pg_name (i := 1) sc_doneX.nd rfl (by first | exact .inl rfl | exact .inr rfl)) ⟨_, rfl⟩ (by decide)) (vgs_cons (vg_nm (pg_name (i := 5) sc_doneX.nd rfl (by first | exact .inl rfl | exact .inr rfl)) ⟨_, rfl⟩ (by decide)) vgs_nil)))) (vss_cons (vs_expr (ve_mut PySem.F.slot_list_extend PySem.F.type_list_extend mt_extA mk_extA (pv 3) (va_cons (ve_var (pv 5)) va_nil))) (vss_kill [4, 5] vss_nil)))) (vss_cons (vs_ret (ve_tupL (va_cons (ve_var (pv 1)) (va_cons (ve_mv (pv 3)) va_nil)))) vss_nil))))) fun ss R hl hS => p_doneX ss R hl hS
abbrev N_law_count : List Str := ["_law_sack_here", "_law_many"]
theorem sc_law_count : FnScope N_law_count ["_law_sack_here", "_law_many"] (defScope s_law_count) := ⟨rfl, rfl, rfl, by decide +kernel, rfl, by decide +kernel, by decide +kernel⟩
theorem ok_law_count {fa : Addr} {fd : FuncData} (F : Fun K "_law_count" "_law_count" s_law_count fa fd) (T : Tx mg) (c_law_take : Cal Pg w K mg base 1 2 "_law_take" S_law_take []) : FnOk Pg w K mg base CX0 2 fa fd ["_law_sack_here", "_law_many"] (spO K 2 S_law_count) :=
  fn_ok (fx := [0]) (N := N_law_count) (k := 1) F sc_law_count rfl (fun cdv A outer s H E hr => show VSs _ _ _ tf_law_count from (vss_cons (vs_ret (ve_ixs (ve_lst (va_cons (ve_add ve_int (vcall c_law_take hr (by decide) (by rfl) rfl (va_cons (ve_bor (pv 0)) (va_cons ve_int va_nil)))) (va_cons (vcall c_law_take hr (by decide) (by rfl) rfl (va_cons (ve_bor (pv 0)) (va_cons (ve_var (pv 1)) va_nil))) va_nil))) (ve_callTy call_int1 oc_int (by rfl) T.m_int boot_int (va_cons (ve_cmp op_gt oc_gt (vcall c_law_take hr (by decide) (by rfl) rfl (va_cons (ve_bor (pv 0)) (va_cons ve_int va_nil))) ve_int (nomark _)) va_nil)))) vss_nil)) fun ss R hl hS => p_law_count ss R hl hS
abbrev N_law_alike : List Str := ["_law_found", "_law_due", "_law_one", "_law_other"]
theorem sc_law_alike : FnScope N_law_alike ["_law_found", "_law_due"] (defScope s_law_alike) := ⟨rfl, rfl, rfl, by decide +kernel, rfl, by decide +kernel, by decide +kernel⟩
theorem ok_law_alike_s {fa : Addr} {fd : FuncData} (d : Nat) (hd : d < 8) (F : Fun K "_law_alike" "_law_alike" s_law_alike fa fd) (T : Tx mg) (c_law_alike : Cal Pg w K mg base (1 + d) 2 "_law_alike" (S_law_alike d) [])  : FnOk Pg w K mg base CX0 (1 + d + 1) fa fd ["_law_found", "_law_due"] (spO K 2 (S_law_alike (d + 1))) :=
  fn_ok (fx := []) (N := N_law_alike) (k := 1 + d) F sc_law_alike rfl (fun cdv A outer s H E hr => show VSs _ _ _ (tf_law_alike d) from (vss_cons (vs_if (vt_val (ve_isi2 (c := .tup) (d := .lst) (by rfl) T.m_isinstance (by rfl) T.m_tuple boot_tuple (by rfl) T.m_list boot_list (ve_var (pv 1)))) (vss_cons (vs_if (vt_w (vw_or (vt_cmp op_ne oc_neS (ve_isi (c := .tup) (by rfl) T.m_isinstance (by rfl) T.m_tuple boot_tuple (ve_var (pv 0))) (ve_isi (c := .tup) (by rfl) T.m_isinstance (by rfl) T.m_tuple boot_tuple (ve_var (pv 1))) (nomark _)) (vw_or1 (vt_cmp op_ne oc_neS (ve_isi (c := .lst) (by rfl) T.m_isinstance (by rfl) T.m_list boot_list (ve_var (pv 0))) (ve_isi (c := .lst) (by rfl) T.m_isinstance (by rfl) T.m_list boot_list (ve_var (pv 1))) (nomark _))))) (vss_cons (vs_ret ve_bl) vss_nil) vss_nil) (vss_cons (vs_ret (ve_and (ve_cmp op_eq oc_eqS (ve_callB call_len oc_len (by rfl) T.m_len boot_len (va_cons (ve_var (pv 0)) va_nil)) (ve_callB call_len oc_len (by rfl) T.m_len boot_len (va_cons (ve_var (pv 1)) va_nil)) (nomark _)) (ve_one (ve_callB (cr_all rfl) oc_all (by rfl) T.m_all boot_all (va_cons (ve_lc (n := 4) (vs := [2, 3]) rfl rfl rfl sc_law_alike.nd (vi_zip (va_cons (ve_var (pv 0)) (va_cons (ve_var (pv 1)) va_nil)) (by rfl) T.m_zip) (blkOk_by (own := [("_law_one", 2), ("_law_other", 3)]) (N := N_law_alike) (sc := defScope s_law_alike) (by decide +kernel)) (fun _ _ _ _ _ => (vg_tp rfl (vgs_cons (vg_nm (pg_name (i := 2) sc_law_alike.nd rfl (by first | exact .inl rfl | exact .inr rfl)) ⟨_, rfl⟩ (by decide)) (vgs_cons (vg_nm (pg_name (i := 3) sc_law_alike.nd rfl (by first | exact .inl rfl | exact .inr rfl)) ⟨_, rfl⟩ (by decide)) vgs_nil)))) (fun _ _ _ _ _ => vts_nil) (fun _ _ _ _ _ => (vcall c_law_alike hr (by omega) (by rfl) rfl (va_cons (ve_var (pv 2)) (va_cons (ve_var (pv 3)) va_nil))))) va_nil))))) vss_nil)) vss_nil) (vss_cons (vs_if (vt_w (vw_or (vt_cmp op_ne oc_neS (ve_isi (c := .bl) (by rfl) T.m_isinstance (by rfl) T.m_bool boot_bool (ve_var (pv 0))) (ve_isi (c := .bl) (by rfl) T.m_isinstance (by rfl) T.m_bool boot_bool (ve_var (pv 1))) (nomark _)) (vw_or1 (vt_cmp op_ne oc_neS (ve_isi (c := .int) (by rfl) T.m_isinstance (by rfl) T.m_int boot_int (ve_var (pv 0))) (ve_isi (c := .int) (by rfl) T.m_isinstance (by rfl) T.m_int boot_int (ve_var (pv 1))) (nomark _))))) (vss_cons (vs_ret ve_bl) vss_nil) vss_nil) (vss_cons (vs_ret (ve_cmp op_eq oc_eqS (ve_var (pv 0)) (ve_var (pv 1)) (nomark _))) vss_nil)))) fun ss R hl hS => p_law_alike d ss R hl hS
theorem ok_law_alike {fa : Addr} {fd : FuncData} (F : Fun K "_law_alike" "_law_alike" s_law_alike fa fd) (T : Tx mg) (hm : mg "_law_alike" = some (.ref fa)) (hb : Binds K fd ["_law_found", "_law_due"] [])  : ∀ d : Nat, d < 8 → FnOk Pg w K mg base CX0 (1 + d) fa fd ["_law_found", "_law_due"] (spO K 2 (S_law_alike d))
  | 0, _ => fn_none (S_law_alike_0)
  | d + 1, h => ok_law_alike_s d (by omega) F T (FnOk.cal (ok_law_alike F T hm hb  d (by omega)) hm F.kp hb) 
abbrev N_law_here : List Str := ["_law_home_here", "_law_stand_here", "_law_found", "_law_name", "_law_long", "_law_bells", "_law_place", "_law_way", "_law_at", "_law_sound", "_law_told"]
theorem sc_law_here : FnScope N_law_here ["_law_home_here", "_law_stand_here"] (defScope s_law_here) := ⟨rfl, rfl, rfl, by decide +kernel, rfl, by decide +kernel, by decide +kernel⟩
theorem ok_law_here {fa : Addr} {fd : FuncData} (F : Fun K "_law_here" "_law_here" s_law_here fa fd) (T : Tx mg)  : FnOk Pg w K mg base CX0 1 fa fd ["_law_home_here", "_law_stand_here"] (spO K 2 S_law_here) :=
  fn_ok (fx := []) (N := N_law_here) (k := 0) F sc_law_here rfl (fun cdv A outer s H E hr => show VSs _ _ _ tf_law_here from (vss_cons (vs_asg (ve_lst va_nil) (vg_nm (pg_name (i := 2) sc_law_here.nd rfl (by first | exact .inl rfl | exact .inr rfl)) ⟨_, rfl⟩ (by decide))) (vss_kill [3, 4, 5, 6, 7] (vss_cons (vs_for PassesOwn.never rfl (vi_zip (va_cons (ve_var (pv 0)) (va_cons (ve_var (pv 1)) va_nil)) (by rfl) T.m_zip) (vg_tp rfl (vgs_cons (vg_tp rfl (vgs_cons (vg_nm (pg_name (i := 3) sc_law_here.nd rfl (by first | exact .inl rfl | exact .inr rfl)) ⟨_, rfl⟩ (by decide)) (vgs_cons (vg_nm (pg_name (i := 4) sc_law_here.nd rfl (by first | exact .inl rfl | exact .inr rfl)) ⟨_, rfl⟩ (by decide)) (vgs_cons (vg_nm (pg_name (i := 5) sc_law_here.nd rfl (by first | exact .inl rfl | exact .inr rfl)) ⟨_, rfl⟩ (by decide)) vgs_nil)))) (vgs_cons (vg_tp rfl (vgs_cons (vg_nm (pg_name (i := 6) sc_law_here.nd rfl (by first | exact .inl rfl | exact .inr rfl)) ⟨_, rfl⟩ (by decide)) (vgs_cons (vg_nm (pg_name (i := 7) sc_law_here.nd rfl (by first | exact .inl rfl | exact .inr rfl)) ⟨_, rfl⟩ (by decide)) vgs_nil))) vgs_nil))) (vss_cons (vs_expr (ve_mut PySem.F.slot_list_extend PySem.F.type_list_extend mt_ext mk_ext (pv 2) (va_cons (ve_lc (n := 11) (vs := [8, 9, 10]) rfl rfl rfl sc_law_here.nd (vi_tup (ve_var (pv 5))) (blkOk_by (own := [("_law_at", 8), ("_law_sound", 9), ("_law_told", 10)]) (N := N_law_here) (sc := defScope s_law_here) (by decide +kernel)) (fun _ _ _ _ _ => (vg_tp rfl (vgs_cons (vg_nm (pg_name (i := 8) sc_law_here.nd rfl (by first | exact .inl rfl | exact .inr rfl)) ⟨_, rfl⟩ (by decide)) (vgs_cons (vg_nm (pg_name (i := 9) sc_law_here.nd rfl (by first | exact .inl rfl | exact .inr rfl)) ⟨_, rfl⟩ (by decide)) (vgs_cons (vg_nm (pg_name (i := 10) sc_law_here.nd rfl (by first | exact .inl rfl | exact .inr rfl)) ⟨_, rfl⟩ (by decide)) vgs_nil))))) (fun _ _ _ _ _ => (vts_one (vt_cmp op_eq oc_eqS (ve_var (pv 8)) (ve_var (pv 6)) (nomark _)))) (fun _ _ _ _ _ => (ve_tup (va_cons (ve_var (pv 9)) (va_cons (ve_var (pv 10)) va_nil))))) va_nil))) (vss_kill [3, 4, 5, 6, 7] vss_nil))) (vss_cons (vs_ret (ve_mv (pv 2))) vss_nil))))) fun ss R hl hS => p_law_here ss R hl hS
abbrev N_law_heard : List Str := ["_law_home_here", "_law_stand_here", "_law_sound", "_law_told"]
theorem sc_law_heard : FnScope N_law_heard ["_law_home_here", "_law_stand_here"] (defScope s_law_heard) := ⟨rfl, rfl, rfl, by decide +kernel, rfl, by decide +kernel, by decide +kernel⟩
theorem ok_law_heard {fa : Addr} {fd : FuncData} (F : Fun K "_law_heard" "_law_heard" s_law_heard fa fd) (T : Tx mg) (c_law_here : Cal Pg w K mg base 1 2 "_law_here" S_law_here []) : FnOk Pg w K mg base CX0 2 fa fd ["_law_home_here", "_law_stand_here"] (spO K 2 S_law_heard) :=
  fn_ok (fx := []) (N := N_law_heard) (k := 1) F sc_law_heard rfl (fun cdv A outer s H E hr => show VSs _ _ _ tf_law_heard from (vss_cons (vs_ret (ve_callTy call_tuple_of oc_tupOf (by rfl) T.m_tuple boot_tuple (va_cons (ve_callB cr_sortedS oc_sortS (by rfl) T.m_sorted boot_sorted (va_cons (ve_lc (n := 4) (vs := [2, 3]) rfl rfl rfl sc_law_heard.nd (vi_lst (vcall c_law_here hr (by decide) (by rfl) rfl (va_cons (ve_var (pv 0)) (va_cons (ve_var (pv 1)) va_nil)))) (blkOk_by (own := [("_law_sound", 2), ("_law_told", 3)]) (N := N_law_heard) (sc := defScope s_law_heard) (by decide +kernel)) (fun _ _ _ _ _ => (vg_tp rfl (vgs_cons (vg_nm (pg_name (i := 2) sc_law_heard.nd rfl (by first | exact .inl rfl | exact .inr rfl)) ⟨_, rfl⟩ (by decide)) (vgs_cons (vg_nm (pg_name (i := 3) sc_law_heard.nd rfl (by first | exact .inl rfl | exact .inr rfl)) ⟨_, rfl⟩ (by decide)) vgs_nil)))) (fun _ _ _ _ _ => (vts_one (vt_cmp op_ne oc_neS (ve_var (pv 2)) ve_str (nomark _)))) (fun _ _ _ _ _ => (ve_var (pv 2)))) va_nil)) va_nil))) vss_nil)) fun ss R hl hS => p_law_heard ss R hl hS
abbrev N_law_flip : List Str := ["_law_home_here", "_law_stand_here", "_law_who", "_law_found", "_law_name", "_law_place", "_law_way"]
theorem sc_law_flip : FnScope N_law_flip ["_law_home_here", "_law_stand_here", "_law_who"] (defScope s_law_flip) := ⟨rfl, rfl, rfl, by decide +kernel, rfl, by decide +kernel, by decide +kernel⟩
theorem ok_law_flip {fa : Addr} {fd : FuncData} (F : Fun K "_law_flip" "_law_flip" s_law_flip fa fd) (T : Tx mg) (c_law_called : Cal Pg w K mg base 1 1 "_law_called" S_law_called []) : FnOk Pg w K mg base CX0 2 fa fd ["_law_home_here", "_law_stand_here", "_law_who"] (spO K 3 S_law_flip) :=
  fn_ok (fx := []) (N := N_law_flip) (k := 1) F sc_law_flip rfl (fun cdv A outer s H E hr => show VSs _ _ _ tf_law_flip from (vss_cons (vs_asg (ve_lst va_nil) (vg_nm (pg_name (i := 3) sc_law_flip.nd rfl (by first | exact .inl rfl | exact .inr rfl)) ⟨_, rfl⟩ (by decide))) (vss_kill [4, 5, 6] (vss_cons (vs_for PassesOwn.never rfl (vi_zip (va_cons (vcall c_law_called hr (by decide) (by rfl) rfl (va_cons (ve_var (pv 0)) va_nil)) (va_cons (ve_var (pv 1)) va_nil)) (by rfl) T.m_zip) (vg_tp rfl (vgs_cons (vg_nm (pg_name (i := 4) sc_law_flip.nd rfl (by first | exact .inl rfl | exact .inr rfl)) ⟨_, rfl⟩ (by decide)) (vgs_cons (vg_tp rfl (vgs_cons (vg_nm (pg_name (i := 5) sc_law_flip.nd rfl (by first | exact .inl rfl | exact .inr rfl)) ⟨_, rfl⟩ (by decide)) (vgs_cons (vg_nm (pg_name (i := 6) sc_law_flip.nd rfl (by first | exact .inl rfl | exact .inr rfl)) ⟨_, rfl⟩ (by decide)) vgs_nil))) vgs_nil))) (vss_cons (vs_expr (ve_mut PySem.F.slot_list_append PySem.F.type_list_append mt_append mk_app (pv 3) (va_cons (ve_tup (va_cons (ve_var (pv 5)) (va_cons (ve_ixs (ve_lst (va_cons (ve_var (pv 6)) (va_cons (ve_sub ve_int (ve_var (pv 6))) va_nil))) (ve_callTy call_int1 oc_int (by rfl) T.m_int boot_int (va_cons (ve_cmp op_in_seq oc_inD (ve_var (pv 4)) (ve_bor (pv 2)) rfl) va_nil))) va_nil))) va_nil))) (vss_kill [4, 5, 6] vss_nil))) (vss_cons (vs_ret (ve_callTy call_tuple_of oc_tupOf (by rfl) T.m_tuple boot_tuple (va_cons (ve_bor (pv 3)) va_nil))) vss_nil))))) fun ss R hl hS => p_law_flip ss R hl hS
abbrev N_law_rung : List Str := ["_law_home_here", "_law_stand_here", "_law_sound", "_law_told"]
theorem sc_law_rung : FnScope N_law_rung ["_law_home_here", "_law_stand_here"] (defScope s_law_rung) := ⟨rfl, rfl, rfl, by decide +kernel, rfl, by decide +kernel, by decide +kernel⟩
theorem ok_law_rung {fa : Addr} {fd : FuncData} (F : Fun K "_law_rung" "_law_rung" s_law_rung fa fd) (T : Tx mg) (c_law_here : Cal Pg w K mg base 1 2 "_law_here" S_law_here []) (c_law_flip : Cal Pg w K mg base 2 3 "_law_flip" S_law_flip []) : FnOk Pg w K mg base CX0 3 fa fd ["_law_home_here", "_law_stand_here"] (spO K 2 S_law_rung) :=
  fn_ok (fx := []) (N := N_law_rung) (k := 2) F sc_law_rung rfl (fun cdv A outer s H E hr => show VSs _ _ _ tf_law_rung from (vss_kill [2, 3] (vss_cons (vs_for PassesOwn.never rfl (vi_lst (vcall c_law_here hr (by decide) (by rfl) rfl (va_cons (ve_var (pv 0)) (va_cons (ve_var (pv 1)) va_nil)))) (vg_tp rfl (vgs_cons (vg_nm (pg_name (i := 2) sc_law_rung.nd rfl (by first | exact .inl rfl | exact .inr rfl)) ⟨_, rfl⟩ (by decide)) (vgs_cons (vg_nm (pg_name (i := 3) sc_law_rung.nd rfl (by first | exact .inl rfl | exact .inr rfl)) ⟨_, rfl⟩ (by decide)) vgs_nil))) (vss_cons (vs_asg (vcall c_law_flip hr (by decide) (by rfl) rfl (va_cons (ve_var (pv 0)) (va_cons (ve_var (pv 1)) (va_cons (ve_var (pv 3)) va_nil)))) (vg_nm (pg_name (i := 1) sc_law_rung.nd rfl (by first | exact .inl rfl | exact .inr rfl)) ⟨_, rfl⟩ (by decide))) (vss_kill [2, 3] vss_nil))) (vss_cons (vs_ret (ve_var (pv 1))) vss_nil)))) fun ss R hl hS => p_law_rung ss R hl hS
abbrev N_law_gone : List Str := ["_law_home_here", "_law_stand_here", "_law_found", "_law_name", "_law_long", "_law_bells", "_law_place", "_law_way"]
theorem sc_law_gone : FnScope N_law_gone ["_law_home_here", "_law_stand_here"] (defScope s_law_gone) := ⟨rfl, rfl, rfl, by decide +kernel, rfl, by decide +kernel, by decide +kernel⟩
theorem ok_law_gone {fa : Addr} {fd : FuncData} (F : Fun K "_law_gone" "_law_gone" s_law_gone fa fd) (T : Tx mg)  : FnOk Pg w K mg base CX0 1 fa fd ["_law_home_here", "_law_stand_here"] (spO K 2 S_law_gone) :=
  fn_ok (fx := []) (N := N_law_gone) (k := 0) F sc_law_gone rfl (fun cdv A outer s H E hr => show VSs _ _ _ tf_law_gone from (vss_cons (vs_asg (ve_lst va_nil) (vg_nm (pg_name (i := 2) sc_law_gone.nd rfl (by first | exact .inl rfl | exact .inr rfl)) ⟨_, rfl⟩ (by decide))) (vss_kill [3, 4, 5, 6, 7] (vss_cons (vs_for PassesOwn.never rfl (vi_zip (va_cons (ve_var (pv 0)) (va_cons (ve_var (pv 1)) va_nil)) (by rfl) T.m_zip) (vg_tp rfl (vgs_cons (vg_tp rfl (vgs_cons (vg_nm (pg_name (i := 3) sc_law_gone.nd rfl (by first | exact .inl rfl | exact .inr rfl)) ⟨_, rfl⟩ (by decide)) (vgs_cons (vg_nm (pg_name (i := 4) sc_law_gone.nd rfl (by first | exact .inl rfl | exact .inr rfl)) ⟨_, rfl⟩ (by decide)) (vgs_cons (vg_nm (pg_name (i := 5) sc_law_gone.nd rfl (by first | exact .inl rfl | exact .inr rfl)) ⟨_, rfl⟩ (by decide)) vgs_nil)))) (vgs_cons (vg_tp rfl (vgs_cons (vg_nm (pg_name (i := 6) sc_law_gone.nd rfl (by first | exact .inl rfl | exact .inr rfl)) ⟨_, rfl⟩ (by decide)) (vgs_cons (vg_nm (pg_name (i := 7) sc_law_gone.nd rfl (by first | exact .inl rfl | exact .inr rfl)) ⟨_, rfl⟩ (by decide)) vgs_nil))) vgs_nil))) (vss_cons (vs_expr (ve_mut PySem.F.slot_list_append PySem.F.type_list_append mt_append mk_app (pv 2) (va_cons (ve_tup (va_cons (ve_ifE (vt_ch op_le op_lt ve_int (ve_add (ve_var (pv 6)) (ve_var (pv 7))) (ve_var (pv 4))) (ve_add (ve_var (pv 6)) (ve_var (pv 7))) (ve_ixs (ve_lst (va_cons (ve_sub (ve_var (pv 4)) ve_int) (va_cons ve_int va_nil))) (ve_callTy call_int1 oc_int (by rfl) T.m_int boot_int (va_cons (ve_cmp op_eq oc_eqS (ve_var (pv 7)) ve_int (nomark _)) va_nil)))) (va_cons (ve_var (pv 7)) va_nil))) va_nil))) (vss_kill [3, 4, 5, 6, 7] vss_nil))) (vss_cons (vs_ret (ve_callTy call_tuple_of oc_tupOf (by rfl) T.m_tuple boot_tuple (va_cons (ve_bor (pv 2)) va_nil))) vss_nil))))) fun ss R hl hS => p_law_gone ss R hl hS
abbrev N_law_beat : List Str := ["_law_home_here", "_law_stand_here"]
theorem sc_law_beat : FnScope N_law_beat ["_law_home_here", "_law_stand_here"] (defScope s_law_beat) := ⟨rfl, rfl, rfl, by decide +kernel, rfl, by decide +kernel, by decide +kernel⟩
theorem ok_law_beat {fa : Addr} {fd : FuncData} (F : Fun K "_law_beat" "_law_beat" s_law_beat fa fd) (T : Tx mg) (c_law_rung : Cal Pg w K mg base 3 2 "_law_rung" S_law_rung []) (c_law_gone : Cal Pg w K mg base 1 2 "_law_gone" S_law_gone []) : FnOk Pg w K mg base CX0 4 fa fd ["_law_home_here", "_law_stand_here"] (spO K 2 S_law_beat) :=
  fn_ok (fx := []) (N := N_law_beat) (k := 3) F sc_law_beat rfl (fun cdv A outer s H E hr => show VSs _ _ _ tf_law_beat from (vss_cons (vs_ret (vcall c_law_rung hr (by decide) (by rfl) rfl (va_cons (ve_var (pv 0)) (va_cons (vcall c_law_gone hr (by decide) (by rfl) rfl (va_cons (ve_var (pv 0)) (va_cons (ve_var (pv 1)) va_nil))) va_nil)))) vss_nil)) fun ss R hl hS => p_law_beat ss R hl hS
abbrev N_law_walk : List Str := ["_law_home_here", "_law_stand_here", "_law_hours", "_law_found", "_law_turn"]
theorem sc_law_walk : FnScope N_law_walk ["_law_home_here", "_law_stand_here", "_law_hours"] (defScope s_law_walk) := ⟨rfl, rfl, rfl, by decide +kernel, rfl, by decide +kernel, by decide +kernel⟩
theorem ok_law_walk {fa : Addr} {fd : FuncData} (F : Fun K "_law_walk" "_law_walk" s_law_walk fa fd) (T : Tx mg) (c_law_beat : Cal Pg w K mg base 4 2 "_law_beat" S_law_beat []) : FnOk Pg w K mg base CX0 5 fa fd ["_law_home_here", "_law_stand_here", "_law_hours"] (spO K 3 S_law_walk) :=
  fn_ok (fx := []) (N := N_law_walk) (k := 4) F sc_law_walk rfl (fun cdv A outer s H E hr => show VSs _ _ _ tf_law_walk from (vss_cons (vs_asg (ve_lst (va_cons (ve_var (pv 1)) va_nil)) (vg_nm (pg_name (i := 3) sc_law_walk.nd rfl (by first | exact .inl rfl | exact .inr rfl)) ⟨_, rfl⟩ (by decide))) (vss_kill [4] (vss_cons (vs_for PassesOwn.never rfl (vi_rg1 (by rfl) T.m_range (va_cons (ve_var (pv 2)) va_nil)) (vg_nm (pg_name (i := 4) sc_law_walk.nd rfl (by first | exact .inl rfl | exact .inr rfl)) ⟨_, rfl⟩ (by decide)) (vss_cons (vs_expr (ve_mut PySem.F.slot_list_append PySem.F.type_list_append mt_append mk_app (pv 3) (va_cons (vcall c_law_beat hr (by decide) (by rfl) rfl (va_cons (ve_var (pv 0)) (va_cons (ve_ixs (ve_bor (pv 3)) (ve_neg ve_int)) va_nil))) va_nil))) (vss_kill [4] vss_nil))) (vss_cons (vs_ret (ve_mv (pv 3))) vss_nil))))) fun ss R hl hS => p_law_walk ss R hl hS
abbrev N_law_led : List Str := ["_law_home_here", "_law_stand_here", "_law_deed_here"]
theorem sc_law_led : FnScope N_law_led ["_law_home_here", "_law_stand_here", "_law_deed_here"] (defScope s_law_led) := ⟨rfl, rfl, rfl, by decide +kernel, rfl, by decide +kernel, by decide +kernel⟩
theorem ok_law_led {fa : Addr} {fd : FuncData} (F : Fun K "_law_led" "_law_led" s_law_led fa fd) (T : Tx mg) (c_law_flip : Cal Pg w K mg base 2 3 "_law_flip" S_law_flip []) (c_law_rung : Cal Pg w K mg base 3 2 "_law_rung" S_law_rung []) (c_law_walk : Cal Pg w K mg base 5 3 "_law_walk" S_law_walk []) : FnOk Pg w K mg base CX0 6 fa fd ["_law_home_here", "_law_stand_here", "_law_deed_here"] (spO K 3 S_law_led) :=
  fn_ok (fx := []) (N := N_law_led) (k := 5) F sc_law_led rfl (fun cdv A outer s H E hr => show VSs _ _ _ tf_law_led from (vss_cons (vs_if (vt_cmp op_eq oc_eqS (ve_ixs (ve_var (pv 2)) ve_int) ve_str (nomark _)) (vss_cons (vs_ret (ve_s10 (vcall c_law_walk hr (by decide) (by rfl) rfl (va_cons (ve_var (pv 0)) (va_cons (ve_var (pv 1)) (va_cons (ve_ixs (ve_var (pv 2)) ve_int) va_nil)))) ve_int)) vss_nil) vss_nil) (vss_cons (vs_if (vt_cmp op_eq oc_eqS (ve_ixs (ve_var (pv 2)) ve_int) ve_str (nomark _)) (vss_cons (vs_ret (ve_lst (va_cons (vcall c_law_rung hr (by decide) (by rfl) rfl (va_cons (ve_var (pv 0)) (va_cons (ve_var (pv 1)) va_nil))) va_nil))) vss_nil) vss_nil) (vss_cons (vs_ret (ve_lst (va_cons (vcall c_law_flip hr (by decide) (by rfl) rfl (va_cons (ve_var (pv 0)) (va_cons (ve_var (pv 1)) (va_cons (ve_ixs (ve_var (pv 2)) ve_int) va_nil)))) va_nil))) vss_nil)))) fun ss R hl hS => p_law_led ss R hl hS
abbrev N_law_done : List Str := ["_law_home_here", "_law_stand_here", "_law_deeds_here", "_law_rows", "_law_deed_here", "_law_here_here"]
theorem sc_law_done : FnScope N_law_done ["_law_home_here", "_law_stand_here", "_law_deeds_here"] (defScope s_law_done) := ⟨rfl, rfl, rfl, by decide +kernel, rfl, by decide +kernel, by decide +kernel⟩
theorem ok_law_done {fa : Addr} {fd : FuncData} (F : Fun K "_law_done" "_law_done" s_law_done fa fd) (T : Tx mg) (c_law_heard : Cal Pg w K mg base 2 2 "_law_heard" S_law_heard []) (c_law_led : Cal Pg w K mg base 6 3 "_law_led" S_law_led []) : FnOk Pg w K mg base CX0 7 fa fd ["_law_home_here", "_law_stand_here", "_law_deeds_here"] (spO K 3 S_law_done) :=
  fn_ok (fx := []) (N := N_law_done) (k := 6) F sc_law_done rfl (fun cdv A outer s H E hr => show VSs _ _ _ tf_law_done from (vss_cons (vs_asg (ve_lst (va_cons (vcall c_law_heard hr (by decide) (by rfl) rfl (va_cons (ve_var (pv 0)) (va_cons (ve_var (pv 1)) va_nil))) va_nil)) (vg_nm (pg_name (i := 3) sc_law_done.nd rfl (by first | exact .inl rfl | exact .inr rfl)) ⟨_, rfl⟩ (by decide))) (vss_kill [4, 5] (vss_cons (vs_for PassesOwn.never rfl (vi_lst (ve_var (pv 2))) (vg_nm (pg_name (i := 4) sc_law_done.nd rfl (by first | exact .inl rfl | exact .inr rfl)) ⟨_, rfl⟩ (by decide)) (vss_kill [5] (vss_cons (vs_for PassesOwn.never rfl (vi_lst (vcall c_law_led hr (by decide) (by rfl) rfl (va_cons (ve_var (pv 0)) (va_cons (ve_var (pv 1)) (va_cons (ve_var (pv 4)) va_nil))))) (vg_nm (pg_name (i := 5) sc_law_done.nd rfl (by first | exact .inl rfl | exact .inr rfl)) ⟨_, rfl⟩ (by decide)) (vss_cons (vs_asg (ve_var (pv 5)) (vg_nm (pg_name (i := 1) sc_law_done.nd rfl (by first | exact .inl rfl | exact .inr rfl)) ⟨_, rfl⟩ (by decide))) (vss_cons (vs_if (vt_cmp op_eq oc_eqS (ve_ixs (ve_var (pv 4)) ve_int) ve_str (nomark _)) (vss_cons (vs_expr (ve_mut PySem.F.slot_list_append PySem.F.type_list_append mt_append mk_app (pv 3) (va_cons (vcall c_law_heard hr (by decide) (by rfl) rfl (va_cons (ve_var (pv 0)) (va_cons (ve_var (pv 1)) va_nil))) va_nil))) vss_nil) vss_nil) (vss_kill [5] vss_nil)))) (vss_kill [4, 5] vss_nil)))) (vss_cons (vs_ret (ve_tup (va_cons (ve_var (pv 1)) (va_cons (ve_frz (pv 3)) va_nil)))) vss_nil))))) fun ss R hl hS => p_law_done ss R hl hS
abbrev N_law : List Str := ["_law_script", "_law_base", "_law_home_here", "_law_turn", "_law_sack_here", "_law_asked", "_law_bare", "_law_one_home", "_law_stand_here", "_law_deeds_here", "_law_due", "_law_kept", "_law_found", "_law_one", "_law_name", "_law_long", "_law_bells"]
theorem sc_law : FnScope N_law ["_law_script"] (defScope s_law) := ⟨rfl, rfl, rfl, by decide +kernel, rfl, by decide +kernel, by decide +kernel⟩
theorem ok_law {fa : Addr} {fd : FuncData} (F : Fun K "law" "law" s_law fa fd) (T : Tx mg) (c_law_take : Cal Pg w K mg base 1 2 "_law_take" S_law_take []) (c_law_mixed : Cal Pg w K mg base 2 2 "_law_mixed" S_law_mixed []) (c_law_some_home : Cal Pg w K mg base 5 1 "_law_some_home" S_law_some_home []) (c_law_sack : Cal Pg w K mg base 1 2 "_law_sack" S_law_sack []) (c_law_stand : Cal Pg w K mg base 2 2 "_law_stand" S_law_stand []) (c_law_deeds : Cal Pg w K mg base 4 3 "_law_deeds" S_law_deeds []) (c_doneX : Cal Pg w K mg base 8 3 "done" S_doneX []) (c_law_count : Cal Pg w K mg base 2 2 "_law_count" S_law_count []) (c_law_alike : Cal Pg w K mg base (1 + 6) 2 "_law_alike" (S_law_alike 6) []) (c_law_done : Cal Pg w K mg base 7 3 "_law_done" S_law_done []) (k_doneX_0_history_standing_house : CalK Pg w K mg base 8 3 "done" S_doneX 0 ["history", "standing", "house"] [.a 2, .a 1, .a 0]) : FnG Pg w K mg base CX0 9 fa fd ["_law_script"] (spO K 1 S_law) :=
  fn_okG (fx := []) (N := N_law) (k := 8) F sc_law rfl (fun cdv A outer s H E hgd hr => show VSs _ _ _ tf_law from (vss_kill [1, 2, 3, 4, 5, 6, 7, 8, 9, 10, 11] (vss_cons (vs_for PassesOwn.never rfl (vi_rg1 (by rfl) T.m_range (va_cons ve_int va_nil)) (vg_nm (pg_name (i := 1) sc_law.nd rfl (by first | exact .inl rfl | exact .inr rfl)) ⟨_, rfl⟩ (by decide)) (vss_cons (vs_par (i := 4) (j := 5) rfl sc_law.nd rfl rfl (by decide) rfl rfl (va_cons (vcall c_law_sack hr (by decide) (by rfl) rfl (va_cons (ve_var (pv 0)) (va_cons (ve_var (pv 1)) va_nil))) (va_cons (ve_lst va_nil) va_nil)) rfl (by decide) (by decide)) (vss_cons (vs_asg (vcall c_law_some_home hr (by decide) (by rfl) rfl (va_cons (ve_bor (pv 4)) va_nil)) (vg_nm (pg_name (i := 2) sc_law.nd rfl (by first | exact .inl rfl | exact .inr rfl)) ⟨_, rfl⟩ (by decide))) (vss_kill [3, 6] (vss_cons (vs_for PassesOwn.never rfl (vi_rg1 (by rfl) T.m_range (va_cons ve_int va_nil)) (vg_nm (pg_name (i := 3) sc_law.nd rfl (by first | exact .inl rfl | exact .inr rfl)) ⟨_, rfl⟩ (by decide)) (vss_cons (vs_tupN (m := 17) rfl rfl (va_cons (vcall c_law_stand hr (by decide) (by rfl) rfl (va_cons (ve_bor (pv 4)) (va_cons (ve_var (pv 2)) va_nil))) (va_cons (vcall c_law_deeds hr (by decide) (by rfl) rfl (va_cons (ve_bor (pv 4)) (va_cons (ve_var (pv 2)) (va_cons (vcall c_law_count hr (by decide) (by rfl) rfl (va_cons (ve_bor (pv 4)) (va_cons ve_int va_nil))) va_nil)))) va_nil)) (pgn_cons (pg_name (i := 8) sc_law.nd rfl (by first | exact .inl rfl | exact .inr rfl)) (pgn_cons (pg_name (i := 9) sc_law.nd rfl (by first | exact .inl rfl | exact .inr rfl)) pgn_nil)) rfl (by decide) (by decide)) (vss_cons (vs_asg (ve_callTy call_tuple_of oc_tupOf (by rfl) T.m_tuple boot_tuple (va_cons (ve_lc (n := 17) (vs := [14, 15, 16]) rfl rfl rfl sc_law.nd (vi_tup (ve_var (pv 2))) (blkOk_by (own := [("_law_name", 14), ("_law_long", 15), ("_law_bells", 16)]) (N := N_law) (sc := defScope s_law) (by decide +kernel)) (fun _ _ _ _ _ => (vg_tp rfl (vgs_cons (vg_nm (pg_name (i := 14) sc_law.nd rfl (by first | exact .inl rfl | exact .inr rfl)) ⟨_, rfl⟩ (by decide)) (vgs_cons (vg_nm (pg_name (i := 15) sc_law.nd rfl (by first | exact .inl rfl | exact .inr rfl)) ⟨_, rfl⟩ (by decide)) (vgs_cons (vg_nm (pg_name (i := 16) sc_law.nd rfl (by first | exact .inl rfl | exact .inr rfl)) ⟨_, rfl⟩ (by decide)) vgs_nil))))) (fun _ _ _ _ _ => vts_nil) (fun _ _ _ _ _ => (ve_tup (va_cons (ve_var (pv 14)) (va_cons (ve_var (pv 15)) (va_cons (ve_s01 (ve_var (pv 16)) ve_int) va_nil)))))) va_nil)) (vg_nm (pg_name (i := 6) sc_law.nd rfl (by first | exact .inl rfl | exact .inr rfl)) ⟨_, rfl⟩ (by decide))) (vss_cons (vs_expr (ve_mut PySem.F.slot_list_extend PySem.F.type_list_extend mt_ext mk_ext (pv 5) (va_cons (ve_lc (n := 17) (vs := [13]) rfl rfl rfl sc_law.nd (vi_tup (ve_tup (va_cons (ve_var (pv 2)) (va_cons (ve_var (pv 6)) va_nil)))) (blkOk_by (own := [("_law_one", 13)]) (N := N_law) (sc := defScope s_law) (by decide +kernel)) (fun _ _ _ _ _ => (vg_nm (pg_name (i := 13) sc_law.nd rfl (by first | exact .inl rfl | exact .inr rfl)) ⟨_, rfl⟩ (by decide))) (fun _ _ _ _ _ => vts_nil) (fun _ _ _ _ _ => (ve_tup (va_cons (ve_var (pv 13)) (va_cons (ve_var (pv 8)) (va_cons (ve_frz (pv 9)) (va_cons (vcall c_law_done hr (by decide) (by rfl) rfl (va_cons (ve_var (pv 13)) (va_cons (ve_var (pv 8)) (va_cons (ve_var (pv 9)) va_nil)))) va_nil))))))) va_nil))) (vss_kill [3, 6] vss_nil))))) (vss_kill [7, 8, 9, 10, 11] (vss_cons (vs_for PassesOwn.never rfl (vi_lst (vcall c_law_mixed hr (by decide) (by rfl) rfl (va_cons (ve_bor (pv 4)) (va_cons (ve_catL (ve_bor (pv 5)) (ve_bor (pv 5))) va_nil)))) (vg_tp rfl (vgs_cons (vg_nm (pg_name (i := 7) sc_law.nd rfl (by first | exact .inl rfl | exact .inr rfl)) ⟨_, rfl⟩ (by decide)) (vgs_cons (vg_nm (pg_name (i := 8) sc_law.nd rfl (by first | exact .inl rfl | exact .inr rfl)) ⟨_, rfl⟩ (by decide)) (vgs_cons (vg_nm (pg_name (i := 9) sc_law.nd rfl (by first | exact .inl rfl | exact .inr rfl)) ⟨_, rfl⟩ (by decide)) (vgs_cons (vg_nm (pg_name (i := 10) sc_law.nd rfl (by first | exact .inl rfl | exact .inr rfl)) ⟨_, rfl⟩ (by decide)) vgs_nil))))) (vss_cons (vs_asg (ve_callB (call_reprD hgd hr.units) oc_repr (by rfl) T.m_repr boot_repr (va_cons (ve_var (pv 9)) va_nil)) (vg_nm (pg_name (i := 11) sc_law.nd rfl (by first | exact .inl rfl | exact .inr rfl)) ⟨_, rfl⟩ (by decide))) (vss_cons (vs_if (vt_cmp op_eq oc_eqS (vcall c_law_take hr (by decide) (by rfl) rfl (va_cons (ve_bor (pv 4)) (va_cons ve_int va_nil))) ve_int (nomark _)) (vss_cons (vs_asg (vcall c_doneX hr (by decide) (by rfl) rfl (va_cons (ve_var (pv 7)) (va_cons (ve_var (pv 8)) (va_cons (ve_var (pv 9)) va_nil)))) (vg_nm (pg_name (i := 12) sc_law.nd rfl (by first | exact .inl rfl | exact .inr rfl)) ⟨_, rfl⟩ (by decide))) vss_nil) (vss_cons (vs_asg (vkcall0 k_doneX_0_history_standing_house hr (by decide) (by rfl) rfl rfl (vk_cons (ve_callTy call_tuple_of oc_tupOf (by rfl) T.m_tuple boot_tuple (va_cons (ve_var (pv 9)) va_nil)) (vk_cons (ve_var (pv 8)) (vk_cons (ve_var (pv 7)) vk_nil)))) (vg_nm (pg_name (i := 12) sc_law.nd rfl (by first | exact .inl rfl | exact .inr rfl)) ⟨_, rfl⟩ (by decide))) vss_nil)) (vss_cons (vs_if (vt_w (vw_or (vt_not (vt_val (vcallBT c_law_alike hr (by decide) (by rfl) (va_cons (ve_bor (pv 12)) (va_cons (ve_var (pv 10)) va_nil))))) (vw_or1 (vt_cmp op_ne oc_neS (ve_callB (call_reprD hgd hr.units) oc_repr (by rfl) T.m_repr boot_repr (va_cons (ve_var (pv 9)) va_nil)) (ve_var (pv 11)) (nomark _))))) (vss_cons (vs_ret ve_bl) vss_nil) vss_nil) (vss_cons (vs_expr (ve_tpClr (pv 12) pe_int)) (vss_kill [7, 8, 9, 10, 11] vss_nil)))))) (vss_kill [1, 2, 3, 4, 5, 6, 7, 8, 9, 10, 11] vss_nil)))))))) (vss_cons (vs_ret ve_bl) vss_nil)))) fun ss R hl hS => p_law ss R hl hS
end
theorem all_mk {l : PySem.W.OpenLaw} {w : World} {K : PySem.W.Frag} {h : Heap} {mg : Str → Option Value} {fa f0 f1 f2 f3 f4 f5 f6 f7 f8 f9 f10 f11 f12 f13 f14 f15 f16 f17 f18 f19 f20 f21 f22 f23 f24 f25 f26 f27 f28 f29 f30 f31 f32 f33 f34 : Addr} (X : K.In h) (G : h.Ns mainGlobals mg) (hfa : mg "law" = some (.ref fa))
    {od0 an0 od1 an1 od2 an2 od3 an3 od4 an4 od5 an5 od6 an6 od7 an7 od8 an8 od9 an9 od10 an10 od11 an11 od12 an12 od13 an13 od14 an14 od15 an15 od16 an16 od17 an17 od18 an18 od19 an19 od20 an20 od21 an21 od22 an22 od23 an23 od24 an24 od25 an25 od26 an26 od27 an27 od28 an28 od29 an29 od30 an30 od31 an31 od32 an32 od33 an33 od34 an34 : Option Addr} {sl0 sl1 sl2 sl3 sl4 sl5 sl6 sl7 sl8 sl9 sl10 sl11 sl12 sl13 sl14 sl15 sl16 sl17 sl18 sl19 sl20 sl21 sl22 sl23 sl24 sl25 sl26 sl27 sl28 sl29 sl30 sl31 sl32 sl33 sl34 : Array (Option Value)} {oc0 kV0 dc0 pm0 cd0 ct0 oc1 kV1 dc1 pm1 cd1 ct1 oc2 kV2 dc2 pm2 cd2 ct2 oc3 kV3 dc3 pm3 cd3 ct3 oc4 kV4 dc4 pm4 cd4 ct4 oc5 kV5 dc5 pm5 cd5 ct5 oc6 kV6 dc6 pm6 cd6 ct6 oc7 kV7 dc7 pm7 cd7 ct7 oc8 kV8 dc8 pm8 cd8 ct8 oc9 kV9 dc9 pm9 cd9 ct9 oc10 kV10 dc10 pm10 cd10 ct10 oc11 kV11 dc11 pm11 cd11 ct11 oc12 kV12 dc12 pm12 cd12 ct12 oc13 kV13 dc13 pm13 cd13 ct13 oc14 kV14 dc14 pm14 cd14 ct14 oc15 kV15 dc15 pm15 cd15 ct15 oc16 kV16 dc16 pm16 cd16 ct16 oc17 kV17 dc17 pm17 cd17 ct17 oc18 dc18 pm18 cd18 ct18 oc19 kV19 dc19 pm19 cd19 ct19 oc20 kV20 dc20 pm20 cd20 ct20 oc21 kV21 dc21 pm21 cd21 ct21 oc22 kV22 dc22 pm22 cd22 ct22 oc23 kV23 dc23 pm23 cd23 ct23 oc24 kV24 dc24 pm24 cd24 ct24 oc25 kV25 dc25 pm25 cd25 ct25 oc26 kV26 dc26 pm26 cd26 ct26 oc27 kV27 dc27 pm27 cd27 ct27 oc28 kV28 dc28 pm28 cd28 ct28 oc29 kV29 dc29 pm29 cd29 ct29 oc30 kV30 dc30 pm30 cd30 ct30 oc31 kV31 dc31 pm31 cd31 ct31 oc32 kV32 dc32 pm32 cd32 ct32 oc33 kV33 dc33 pm33 cd33 ct33 oc34 kV34 dc34 pm34 cd34 ct34 : Value} {dD18 : Addr} {tk18_beats : Tok}
    (a0 : PySem.W.nsIn K mainGlobals "_law_take" = some (some (.ref f0))) (l0 : K.lookup f0 = some ⟨oc0, od0, .func (PySem.W.fnOf "_law_take" "_law_take" (defArgs s_law_take) (defBody s_law_take) (defScope s_law_take) .none kV0 dc0 pm0 an0 cd0 ct0), sl0⟩) (c0 : PySem.W.codeIn K cd0 "_law_take" = true) (k0 : PySem.W.keepIn K (.ref f0) = true)
    (a1 : PySem.W.nsIn K mainGlobals "_law_mixed" = some (some (.ref f1))) (l1 : K.lookup f1 = some ⟨oc1, od1, .func (PySem.W.fnOf "_law_mixed" "_law_mixed" (defArgs s_law_mixed) (defBody s_law_mixed) (defScope s_law_mixed) .none kV1 dc1 pm1 an1 cd1 ct1), sl1⟩) (c1 : PySem.W.codeIn K cd1 "_law_mixed" = true) (k1 : PySem.W.keepIn K (.ref f1) = true)
    (a2 : PySem.W.nsIn K mainGlobals "_law_names" = some (some (.ref f2))) (l2 : K.lookup f2 = some ⟨oc2, od2, .func (PySem.W.fnOf "_law_names" "_law_names" (defArgs s_law_names) (defBody s_law_names) (defScope s_law_names) .none kV2 dc2 pm2 an2 cd2 ct2), sl2⟩) (c2 : PySem.W.codeIn K cd2 "_law_names" = true) (k2 : PySem.W.keepIn K (.ref f2) = true)
    (a3 : PySem.W.nsIn K mainGlobals "_law_home" = some (some (.ref f3))) (l3 : K.lookup f3 = some ⟨oc3, od3, .func (PySem.W.fnOf "_law_home" "_law_home" (defArgs s_law_home) (defBody s_law_home) (defScope s_law_home) .none kV3 dc3 pm3 an3 cd3 ct3), sl3⟩) (c3 : PySem.W.codeIn K cd3 "_law_home" = true) (k3 : PySem.W.keepIn K (.ref f3) = true)
    (a4 : PySem.W.nsIn K mainGlobals "_law_some_home" = some (some (.ref f4))) (l4 : K.lookup f4 = some ⟨oc4, od4, .func (PySem.W.fnOf "_law_some_home" "_law_some_home" (defArgs s_law_some_home) (defBody s_law_some_home) (defScope s_law_some_home) .none kV4 dc4 pm4 an4 cd4 ct4), sl4⟩) (c4 : PySem.W.codeIn K cd4 "_law_some_home" = true) (k4 : PySem.W.keepIn K (.ref f4) = true)
    (a5 : PySem.W.nsIn K mainGlobals "_law_sack" = some (some (.ref f5))) (l5 : K.lookup f5 = some ⟨oc5, od5, .func (PySem.W.fnOf "_law_sack" "_law_sack" (defArgs s_law_sack) (defBody s_law_sack) (defScope s_law_sack) .none kV5 dc5 pm5 an5 cd5 ct5), sl5⟩) (c5 : PySem.W.codeIn K cd5 "_law_sack" = true) (k5 : PySem.W.keepIn K (.ref f5) = true)
    (a6 : PySem.W.nsIn K mainGlobals "_law_stand" = some (some (.ref f6))) (l6 : K.lookup f6 = some ⟨oc6, od6, .func (PySem.W.fnOf "_law_stand" "_law_stand" (defArgs s_law_stand) (defBody s_law_stand) (defScope s_law_stand) .none kV6 dc6 pm6 an6 cd6 ct6), sl6⟩) (c6 : PySem.W.codeIn K cd6 "_law_stand" = true) (k6 : PySem.W.keepIn K (.ref f6) = true)
    (a7 : PySem.W.nsIn K mainGlobals "_law_called" = some (some (.ref f7))) (l7 : K.lookup f7 = some ⟨oc7, od7, .func (PySem.W.fnOf "_law_called" "_law_called" (defArgs s_law_called) (defBody s_law_called) (defScope s_law_called) .none kV7 dc7 pm7 an7 cd7 ct7), sl7⟩) (c7 : PySem.W.codeIn K cd7 "_law_called" = true) (k7 : PySem.W.keepIn K (.ref f7) = true)
    (a8 : PySem.W.nsIn K mainGlobals "_law_deed" = some (some (.ref f8))) (l8 : K.lookup f8 = some ⟨oc8, od8, .func (PySem.W.fnOf "_law_deed" "_law_deed" (defArgs s_law_deed) (defBody s_law_deed) (defScope s_law_deed) .none kV8 dc8 pm8 an8 cd8 ct8), sl8⟩) (c8 : PySem.W.codeIn K cd8 "_law_deed" = true) (k8 : PySem.W.keepIn K (.ref f8) = true)
    (a9 : PySem.W.nsIn K mainGlobals "_law_beats_in" = some (some (.ref f9))) (l9 : K.lookup f9 = some ⟨oc9, od9, .func (PySem.W.fnOf "_law_beats_in" "_law_beats_in" (defArgs s_law_beats_in) (defBody s_law_beats_in) (defScope s_law_beats_in) .none kV9 dc9 pm9 an9 cd9 ct9), sl9⟩) (c9 : PySem.W.codeIn K cd9 "_law_beats_in" = true) (k9 : PySem.W.keepIn K (.ref f9) = true)
    (a10 : PySem.W.nsIn K mainGlobals "_law_deeds" = some (some (.ref f10))) (l10 : K.lookup f10 = some ⟨oc10, od10, .func (PySem.W.fnOf "_law_deeds" "_law_deeds" (defArgs s_law_deeds) (defBody s_law_deeds) (defScope s_law_deeds) .none kV10 dc10 pm10 an10 cd10 ct10), sl10⟩) (c10 : PySem.W.codeIn K cd10 "_law_deeds" = true) (k10 : PySem.W.keepIn K (.ref f10) = true)
    (a11 : PySem.W.nsIn K mainGlobals "bells_here" = some (some (.ref f11))) (l11 : K.lookup f11 = some ⟨oc11, od11, .func (PySem.W.fnOf "bells_here" "bells_here" (defArgs s_bells_here) (defBody s_bells_here) (defScope s_bells_here) .none kV11 dc11 pm11 an11 cd11 ct11), sl11⟩) (c11 : PySem.W.codeIn K cd11 "bells_here" = true) (k11 : PySem.W.keepIn K (.ref f11) = true)
    (a12 : PySem.W.nsIn K mainGlobals "heard" = some (some (.ref f12))) (l12 : K.lookup f12 = some ⟨oc12, od12, .func (PySem.W.fnOf "heard" "heard" (defArgs s_heard) (defBody s_heard) (defScope s_heard) .none kV12 dc12 pm12 an12 cd12 ct12), sl12⟩) (c12 : PySem.W.codeIn K cd12 "heard" = true) (k12 : PySem.W.keepIn K (.ref f12) = true)
    (a13 : PySem.W.nsIn K mainGlobals "names_of" = some (some (.ref f13))) (l13 : K.lookup f13 = some ⟨oc13, od13, .func (PySem.W.fnOf "names_of" "names_of" (defArgs s_names_of) (defBody s_names_of) (defScope s_names_of) .none kV13 dc13 pm13 an13 cd13 ct13), sl13⟩) (c13 : PySem.W.codeIn K cd13 "names_of" = true) (k13 : PySem.W.keepIn K (.ref f13) = true)
    (a14 : PySem.W.nsIn K mainGlobals "turned" = some (some (.ref f14))) (l14 : K.lookup f14 = some ⟨oc14, od14, .func (PySem.W.fnOf "turned" "turned" (defArgs s_turned) (defBody s_turned) (defScope s_turned) .none kV14 dc14 pm14 an14 cd14 ct14), sl14⟩) (c14 : PySem.W.codeIn K cd14 "turned" = true) (k14 : PySem.W.keepIn K (.ref f14) = true)
    (a15 : PySem.W.nsIn K mainGlobals "told_oddly" = some (some (.ref f15))) (l15 : K.lookup f15 = some ⟨oc15, od15, .func (PySem.W.fnOf "told_oddly" "told_oddly" (defArgs s_told_oddly) (defBody s_told_oddly) (defScope s_told_oddly) .none kV15 dc15 pm15 an15 cd15 ct15), sl15⟩) (c15 : PySem.W.codeIn K cd15 "told_oddly" = true) (k15 : PySem.W.keepIn K (.ref f15) = true)
    (a16 : PySem.W.nsIn K mainGlobals "rung" = some (some (.ref f16))) (l16 : K.lookup f16 = some ⟨oc16, od16, .func (PySem.W.fnOf "rung" "rung" (defArgs s_rung) (defBody s_rung) (defScope s_rung) .none kV16 dc16 pm16 an16 cd16 ct16), sl16⟩) (c16 : PySem.W.codeIn K cd16 "rung" = true) (k16 : PySem.W.keepIn K (.ref f16) = true)
    (a17 : PySem.W.nsIn K mainGlobals "stepped" = some (some (.ref f17))) (l17 : K.lookup f17 = some ⟨oc17, od17, .func (PySem.W.fnOf "stepped" "stepped" (defArgs s_stepped) (defBody s_stepped) (defScope s_stepped) .none kV17 dc17 pm17 an17 cd17 ct17), sl17⟩) (c17 : PySem.W.codeIn K cd17 "stepped" = true) (k17 : PySem.W.keepIn K (.ref f17) = true)
    (a18 : PySem.W.nsIn K mainGlobals "beaten" = some (some (.ref f18))) (l18 : K.lookup f18 = some ⟨oc18, od18, .func (PySem.W.fnOf "beaten" "beaten" (defArgs s_beaten) (defBody s_beaten) (defScope s_beaten) .none (.ref dD18) dc18 pm18 an18 cd18 ct18), sl18⟩) (c18 : PySem.W.codeIn K cd18 "beaten" = true) (k18 : PySem.W.keepIn K (.ref f18) = true)
    (d18_beats : PySem.W.nsIn K dD18 "beats" = some (some (.int 1 tk18_beats)))
    (a19 : PySem.W.nsIn K mainGlobals "passed" = some (some (.ref f19))) (l19 : K.lookup f19 = some ⟨oc19, od19, .func (PySem.W.fnOf "passed" "passed" (defArgs s_passed) (defBody s_passed) (defScope s_passed) .none kV19 dc19 pm19 an19 cd19 ct19), sl19⟩) (c19 : PySem.W.codeIn K cd19 "passed" = true) (k19 : PySem.W.keepIn K (.ref f19) = true)
    (a20 : PySem.W.nsIn K mainGlobals "hearing" = some (some (.ref f20))) (l20 : K.lookup f20 = some ⟨oc20, od20, .func (PySem.W.fnOf "hearing" "hearing" (defArgs s_hearing) (defBody s_hearing) (defScope s_hearing) .none kV20 dc20 pm20 an20 cd20 ct20), sl20⟩) (c20 : PySem.W.codeIn K cd20 "hearing" = true) (k20 : PySem.W.keepIn K (.ref f20) = true)
    (a21 : PySem.W.nsIn K mainGlobals "deed_done" = some (some (.ref f21))) (l21 : K.lookup f21 = some ⟨oc21, od21, .func (PySem.W.fnOf "deed_done" "deed_done" (defArgs s_deed_done) (defBody s_deed_done) (defScope s_deed_done) .none kV21 dc21 pm21 an21 cd21 ct21), sl21⟩) (c21 : PySem.W.codeIn K cd21 "deed_done" = true) (k21 : PySem.W.keepIn K (.ref f21) = true)
    (a22 : PySem.W.nsIn K mainGlobals "done" = some (some (.ref f22))) (l22 : K.lookup f22 = some ⟨oc22, od22, .func (PySem.W.fnOf "done" "done" (defArgs s_doneX) (defBody s_doneX) (defScope s_doneX) .none kV22 dc22 pm22 an22 cd22 ct22), sl22⟩) (c22 : PySem.W.codeIn K cd22 "done" = true) (k22 : PySem.W.keepIn K (.ref f22) = true)
    (a23 : PySem.W.nsIn K mainGlobals "_law_count" = some (some (.ref f23))) (l23 : K.lookup f23 = some ⟨oc23, od23, .func (PySem.W.fnOf "_law_count" "_law_count" (defArgs s_law_count) (defBody s_law_count) (defScope s_law_count) .none kV23 dc23 pm23 an23 cd23 ct23), sl23⟩) (c23 : PySem.W.codeIn K cd23 "_law_count" = true) (k23 : PySem.W.keepIn K (.ref f23) = true)
    (a24 : PySem.W.nsIn K mainGlobals "_law_alike" = some (some (.ref f24))) (l24 : K.lookup f24 = some ⟨oc24, od24, .func (PySem.W.fnOf "_law_alike" "_law_alike" (defArgs s_law_alike) (defBody s_law_alike) (defScope s_law_alike) .none kV24 dc24 pm24 an24 cd24 ct24), sl24⟩) (c24 : PySem.W.codeIn K cd24 "_law_alike" = true) (k24 : PySem.W.keepIn K (.ref f24) = true)
    (a25 : PySem.W.nsIn K mainGlobals "_law_here" = some (some (.ref f25))) (l25 : K.lookup f25 = some ⟨oc25, od25, .func (PySem.W.fnOf "_law_here" "_law_here" (defArgs s_law_here) (defBody s_law_here) (defScope s_law_here) .none kV25 dc25 pm25 an25 cd25 ct25), sl25⟩) (c25 : PySem.W.codeIn K cd25 "_law_here" = true) (k25 : PySem.W.keepIn K (.ref f25) = true)
    (a26 : PySem.W.nsIn K mainGlobals "_law_heard" = some (some (.ref f26))) (l26 : K.lookup f26 = some ⟨oc26, od26, .func (PySem.W.fnOf "_law_heard" "_law_heard" (defArgs s_law_heard) (defBody s_law_heard) (defScope s_law_heard) .none kV26 dc26 pm26 an26 cd26 ct26), sl26⟩) (c26 : PySem.W.codeIn K cd26 "_law_heard" = true) (k26 : PySem.W.keepIn K (.ref f26) = true)
    (a27 : PySem.W.nsIn K mainGlobals "_law_flip" = some (some (.ref f27))) (l27 : K.lookup f27 = some ⟨oc27, od27, .func (PySem.W.fnOf "_law_flip" "_law_flip" (defArgs s_law_flip) (defBody s_law_flip) (defScope s_law_flip) .none kV27 dc27 pm27 an27 cd27 ct27), sl27⟩) (c27 : PySem.W.codeIn K cd27 "_law_flip" = true) (k27 : PySem.W.keepIn K (.ref f27) = true)
    (a28 : PySem.W.nsIn K mainGlobals "_law_rung" = some (some (.ref f28))) (l28 : K.lookup f28 = some ⟨oc28, od28, .func (PySem.W.fnOf "_law_rung" "_law_rung" (defArgs s_law_rung) (defBody s_law_rung) (defScope s_law_rung) .none kV28 dc28 pm28 an28 cd28 ct28), sl28⟩) (c28 : PySem.W.codeIn K cd28 "_law_rung" = true) (k28 : PySem.W.keepIn K (.ref f28) = true)
    (a29 : PySem.W.nsIn K mainGlobals "_law_gone" = some (some (.ref f29))) (l29 : K.lookup f29 = some ⟨oc29, od29, .func (PySem.W.fnOf "_law_gone" "_law_gone" (defArgs s_law_gone) (defBody s_law_gone) (defScope s_law_gone) .none kV29 dc29 pm29 an29 cd29 ct29), sl29⟩) (c29 : PySem.W.codeIn K cd29 "_law_gone" = true) (k29 : PySem.W.keepIn K (.ref f29) = true)
    (a30 : PySem.W.nsIn K mainGlobals "_law_beat" = some (some (.ref f30))) (l30 : K.lookup f30 = some ⟨oc30, od30, .func (PySem.W.fnOf "_law_beat" "_law_beat" (defArgs s_law_beat) (defBody s_law_beat) (defScope s_law_beat) .none kV30 dc30 pm30 an30 cd30 ct30), sl30⟩) (c30 : PySem.W.codeIn K cd30 "_law_beat" = true) (k30 : PySem.W.keepIn K (.ref f30) = true)
    (a31 : PySem.W.nsIn K mainGlobals "_law_walk" = some (some (.ref f31))) (l31 : K.lookup f31 = some ⟨oc31, od31, .func (PySem.W.fnOf "_law_walk" "_law_walk" (defArgs s_law_walk) (defBody s_law_walk) (defScope s_law_walk) .none kV31 dc31 pm31 an31 cd31 ct31), sl31⟩) (c31 : PySem.W.codeIn K cd31 "_law_walk" = true) (k31 : PySem.W.keepIn K (.ref f31) = true)
    (a32 : PySem.W.nsIn K mainGlobals "_law_led" = some (some (.ref f32))) (l32 : K.lookup f32 = some ⟨oc32, od32, .func (PySem.W.fnOf "_law_led" "_law_led" (defArgs s_law_led) (defBody s_law_led) (defScope s_law_led) .none kV32 dc32 pm32 an32 cd32 ct32), sl32⟩) (c32 : PySem.W.codeIn K cd32 "_law_led" = true) (k32 : PySem.W.keepIn K (.ref f32) = true)
    (a33 : PySem.W.nsIn K mainGlobals "_law_done" = some (some (.ref f33))) (l33 : K.lookup f33 = some ⟨oc33, od33, .func (PySem.W.fnOf "_law_done" "_law_done" (defArgs s_law_done) (defBody s_law_done) (defScope s_law_done) .none kV33 dc33 pm33 an33 cd33 ct33), sl33⟩) (c33 : PySem.W.codeIn K cd33 "_law_done" = true) (k33 : PySem.W.keepIn K (.ref f33) = true)
    (a34 : PySem.W.nsIn K mainGlobals "law" = some (some (.ref f34))) (l34 : K.lookup f34 = some ⟨oc34, od34, .func (PySem.W.fnOf "law" "law" (defArgs s_law) (defBody s_law) (defScope s_law) .none kV34 dc34 pm34 an34 cd34 ct34), sl34⟩) (c34 : PySem.W.codeIn K cd34 "law" = true) (k34 : PySem.W.keepIn K (.ref f34) = true)
    (z_abs : PySem.W.nsIn K mainGlobals "abs" = some none)
    (z_all : PySem.W.nsIn K mainGlobals "all" = some none)
    (z_bool : PySem.W.nsIn K mainGlobals "bool" = some none)
    (z_enumerate : PySem.W.nsIn K mainGlobals "enumerate" = some none)
    (z_int : PySem.W.nsIn K mainGlobals "int" = some none)
    (z_isinstance : PySem.W.nsIn K mainGlobals "isinstance" = some none)
    (z_len : PySem.W.nsIn K mainGlobals "len" = some none)
    (z_list : PySem.W.nsIn K mainGlobals "list" = some none)
    (z_max : PySem.W.nsIn K mainGlobals "max" = some none)
    (z_min : PySem.W.nsIn K mainGlobals "min" = some none)
    (z_range : PySem.W.nsIn K mainGlobals "range" = some none)
    (z_repr : PySem.W.nsIn K mainGlobals "repr" = some none)
    (z_sorted : PySem.W.nsIn K mainGlobals "sorted" = some none)
    (z_sum : PySem.W.nsIn K mainGlobals "sum" = some none)
    (z_tuple : PySem.W.nsIn K mainGlobals "tuple" = some none)
    (z_zip : PySem.W.nsIn K mainGlobals "zip" = some none)
    : ∃ fd : FuncData, (∀ (s : Shared) (v : Value), BindsTo s fd ⟨[v], []⟩ [("_law_script", v)]) ∧ ∀ base : Heap, K.In base → base.Ns mainGlobals mg → FnG l.prog w K mg base CX0 9 fa fd ["_law_script"] (spO K 1 S_law) := by
  have e := hfa.symm.trans (PySem.W.mg_of X G a34)
  cases e
  have T : Tx mg := ⟨PySem.W.mg_none_of X G z_abs, PySem.W.mg_none_of X G z_all, PySem.W.mg_none_of X G z_bool, PySem.W.mg_none_of X G z_enumerate, PySem.W.mg_none_of X G z_int, PySem.W.mg_none_of X G z_isinstance, PySem.W.mg_none_of X G z_len, PySem.W.mg_none_of X G z_list, PySem.W.mg_none_of X G z_max, PySem.W.mg_none_of X G z_min, PySem.W.mg_none_of X G z_range, PySem.W.mg_none_of X G z_repr, PySem.W.mg_none_of X G z_sorted, PySem.W.mg_none_of X G z_sum, PySem.W.mg_none_of X G z_tuple, PySem.W.mg_none_of X G z_zip⟩
  have F0 := fun_mk (st := s_law_take) l0 c0 k0
  have b0 := F0.binds (ps := ["_law_sack_here", "_law_many"]) fun _ _ _ _ _ _ us hl => match us, hl with | [_, _], _ => rfl
  have F1 := fun_mk (st := s_law_mixed) l1 c1 k1
  have b1 := F1.binds (ps := ["_law_sack_here", "_law_some"]) fun _ _ _ _ _ _ us hl => match us, hl with | [_, _], _ => rfl
  have F2 := fun_mk (st := s_law_names) l2 c2 k2
  have b2 := F2.binds (ps := ["_law_sack_here", "_law_many"]) fun _ _ _ _ _ _ us hl => match us, hl with | [_, _], _ => rfl
  have F3 := fun_mk (st := s_law_home) l3 c3 k3
  have b3 := F3.binds (ps := ["_law_sack_here", "_law_words", "_law_wide", "_law_cap"]) fun _ _ _ _ _ _ us hl => match us, hl with | [_, _, _, _], _ => rfl
  have F4 := fun_mk (st := s_law_some_home) l4 c4 k4
  have b4 := F4.binds (ps := ["_law_sack_here"]) fun _ _ _ _ _ _ us hl => match us, hl with | [_], _ => rfl
  have F5 := fun_mk (st := s_law_sack) l5 c5 k5
  have b5 := F5.binds (ps := ["_law_script", "_law_base"]) fun _ _ _ _ _ _ us hl => match us, hl with | [_, _], _ => rfl
  have F6 := fun_mk (st := s_law_stand) l6 c6 k6
  have b6 := F6.binds (ps := ["_law_sack_here", "_law_home_here"]) fun _ _ _ _ _ _ us hl => match us, hl with | [_, _], _ => rfl
  have F7 := fun_mk (st := s_law_called) l7 c7 k7
  have b7 := F7.binds (ps := ["_law_home_here"]) fun _ _ _ _ _ _ us hl => match us, hl with | [_], _ => rfl
  have F8 := fun_mk (st := s_law_deed) l8 c8 k8
  have b8 := F8.binds (ps := ["_law_sack_here", "_law_home_here", "_law_room"]) fun _ _ _ _ _ _ us hl => match us, hl with | [_, _, _], _ => rfl
  have F9 := fun_mk (st := s_law_beats_in) l9 c9 k9
  have b9 := F9.binds (ps := ["_law_deeds_here"]) fun _ _ _ _ _ _ us hl => match us, hl with | [_], _ => rfl
  have F10 := fun_mk (st := s_law_deeds) l10 c10 k10
  have b10 := F10.binds (ps := ["_law_sack_here", "_law_home_here", "_law_many"]) fun _ _ _ _ _ _ us hl => match us, hl with | [_, _, _], _ => rfl
  have F11 := fun_mk (st := s_bells_here) l11 c11 k11
  have b11 := F11.binds (ps := ["house", "standing"]) fun _ _ _ _ _ _ us hl => match us, hl with | [_, _], _ => rfl
  have F12 := fun_mk (st := s_heard) l12 c12 k12
  have b12 := F12.binds (ps := ["house", "standing"]) fun _ _ _ _ _ _ us hl => match us, hl with | [_, _], _ => rfl
  have F13 := fun_mk (st := s_names_of) l13 c13 k13
  have b13 := F13.binds (ps := ["house"]) fun _ _ _ _ _ _ us hl => match us, hl with | [_], _ => rfl
  have F14 := fun_mk (st := s_turned) l14 c14 k14
  have b14 := F14.binds (ps := ["house", "standing", "names"]) fun _ _ _ _ _ _ us hl => match us, hl with | [_, _, _], _ => rfl
  have F15 := fun_mk (st := s_told_oddly) l15 c15 k15
  have b15 := F15.binds (ps := ["house", "standing"]) fun _ _ _ _ _ _ us hl => match us, hl with | [_, _], _ => rfl
  have F16 := fun_mk (st := s_rung) l16 c16 k16
  have b16 := F16.binds (ps := ["house", "standing"]) fun _ _ _ _ _ _ us hl => match us, hl with | [_, _], _ => rfl
  have F17 := fun_mk (st := s_stepped) l17 c17 k17
  have b17 := F17.binds (ps := ["house", "standing"]) fun _ _ _ _ _ _ us hl => match us, hl with | [_, _], _ => rfl
  have F18 := fun_mk (st := s_beaten) l18 c18 k18
  have F19 := fun_mk (st := s_passed) l19 c19 k19
  have b19 := F19.binds (ps := ["house", "standing", "beats"]) fun _ _ _ _ _ _ us hl => match us, hl with | [_, _, _], _ => rfl
  have F20 := fun_mk (st := s_hearing) l20 c20 k20
  have b20 := F20.binds (ps := ["house", "standing", "beats"]) fun _ _ _ _ _ _ us hl => match us, hl with | [_, _, _], _ => rfl
  have F21 := fun_mk (st := s_deed_done) l21 c21 k21
  have b21 := F21.binds (ps := ["house", "standing", "deed"]) fun _ _ _ _ _ _ us hl => match us, hl with | [_, _, _], _ => rfl
  have F22 := fun_mk (st := s_doneX) l22 c22 k22
  have b22 := F22.binds (ps := ["house", "standing", "history"]) fun _ _ _ _ _ _ us hl => match us, hl with | [_, _, _], _ => rfl
  have F23 := fun_mk (st := s_law_count) l23 c23 k23
  have b23 := F23.binds (ps := ["_law_sack_here", "_law_many"]) fun _ _ _ _ _ _ us hl => match us, hl with | [_, _], _ => rfl
  have F24 := fun_mk (st := s_law_alike) l24 c24 k24
  have b24 := F24.binds (ps := ["_law_found", "_law_due"]) fun _ _ _ _ _ _ us hl => match us, hl with | [_, _], _ => rfl
  have F25 := fun_mk (st := s_law_here) l25 c25 k25
  have b25 := F25.binds (ps := ["_law_home_here", "_law_stand_here"]) fun _ _ _ _ _ _ us hl => match us, hl with | [_, _], _ => rfl
  have F26 := fun_mk (st := s_law_heard) l26 c26 k26
  have b26 := F26.binds (ps := ["_law_home_here", "_law_stand_here"]) fun _ _ _ _ _ _ us hl => match us, hl with | [_, _], _ => rfl
  have F27 := fun_mk (st := s_law_flip) l27 c27 k27
  have b27 := F27.binds (ps := ["_law_home_here", "_law_stand_here", "_law_who"]) fun _ _ _ _ _ _ us hl => match us, hl with | [_, _, _], _ => rfl
  have F28 := fun_mk (st := s_law_rung) l28 c28 k28
  have b28 := F28.binds (ps := ["_law_home_here", "_law_stand_here"]) fun _ _ _ _ _ _ us hl => match us, hl with | [_, _], _ => rfl
  have F29 := fun_mk (st := s_law_gone) l29 c29 k29
  have b29 := F29.binds (ps := ["_law_home_here", "_law_stand_here"]) fun _ _ _ _ _ _ us hl => match us, hl with | [_, _], _ => rfl
  have F30 := fun_mk (st := s_law_beat) l30 c30 k30
  have b30 := F30.binds (ps := ["_law_home_here", "_law_stand_here"]) fun _ _ _ _ _ _ us hl => match us, hl with | [_, _], _ => rfl
  have F31 := fun_mk (st := s_law_walk) l31 c31 k31
  have b31 := F31.binds (ps := ["_law_home_here", "_law_stand_here", "_law_hours"]) fun _ _ _ _ _ _ us hl => match us, hl with | [_, _, _], _ => rfl
  have F32 := fun_mk (st := s_law_led) l32 c32 k32
  have b32 := F32.binds (ps := ["_law_home_here", "_law_stand_here", "_law_deed_here"]) fun _ _ _ _ _ _ us hl => match us, hl with | [_, _, _], _ => rfl
  have F33 := fun_mk (st := s_law_done) l33 c33 k33
  have b33 := F33.binds (ps := ["_law_home_here", "_law_stand_here", "_law_deeds_here"]) fun _ _ _ _ _ _ us hl => match us, hl with | [_, _, _], _ => rfl
  have F34 := fun_mk (st := s_law) l34 c34 k34
  refine ⟨PySem.W.fnOf "law" "law" (defArgs s_law) (defBody s_law) (defScope s_law) .none kV34 dc34 pm34 an34 cd34 ct34, fun s v => .of_eq rfl, fun base _ _ => ?_⟩
  have O0 := (by exact ok_law_take F0 T  : FnOk l.prog w K mg base CX0 1 _ _ _ (spO K 2 S_law_take))
  have C0 := FnOk.cal O0 (PySem.W.mg_of X G a0) k0 b0
  have O1 := (by exact ok_law_mixed F1 T C0 : FnOk l.prog w K mg base CX0 2 _ _ _ (spO K 2 S_law_mixed))
  have C1 := FnOk.cal O1 (PySem.W.mg_of X G a1) k1 b1
  have O2 := (by exact ok_law_names F2 T C0 C1 : FnOk l.prog w K mg base CX0 3 _ _ _ (spO K 2 S_law_names))
  have C2 := FnOk.cal O2 (PySem.W.mg_of X G a2) k2 b2
  have O3 := (by exact ok_law_home F3 T C0 C2 : FnOk l.prog w K mg base CX0 4 _ _ _ (spO K 4 S_law_home))
  have C3 := FnOk.cal O3 (PySem.W.mg_of X G a3) k3 b3
  have O4 := (by exact ok_law_some_home F4 T C0 C2 C3 : FnOk l.prog w K mg base CX0 5 _ _ _ (spO K 1 S_law_some_home))
  have C4 := FnOk.cal O4 (PySem.W.mg_of X G a4) k4 b4
  have O5 := (by exact ok_law_sack F5 T  : FnOk l.prog w K mg base CX0 1 _ _ _ (spO K 2 S_law_sack))
  have C5 := FnOk.cal O5 (PySem.W.mg_of X G a5) k5 b5
  have O6 := (by exact ok_law_stand F6 T C0 : FnOk l.prog w K mg base CX0 2 _ _ _ (spO K 2 S_law_stand))
  have C6 := FnOk.cal O6 (PySem.W.mg_of X G a6) k6 b6
  have O7 := (by exact ok_law_called F7 T  : FnOk l.prog w K mg base CX0 1 _ _ _ (spO K 1 S_law_called))
  have C7 := FnOk.cal O7 (PySem.W.mg_of X G a7) k7 b7
  have O8 := (by exact ok_law_deed F8 T C0 C1 C7 : FnOk l.prog w K mg base CX0 3 _ _ _ (spO K 3 S_law_deed))
  have C8 := FnOk.cal O8 (PySem.W.mg_of X G a8) k8 b8
  have O9 := (by exact ok_law_beats_in F9 T  : FnOk l.prog w K mg base CX0 1 _ _ _ (spO K 1 S_law_beats_in))
  have C9 := FnOk.cal O9 (PySem.W.mg_of X G a9) k9 b9
  have O10 := (by exact ok_law_deeds F10 T C0 C8 C9 : FnOk l.prog w K mg base CX0 4 _ _ _ (spO K 3 S_law_deeds))
  have C10 := FnOk.cal O10 (PySem.W.mg_of X G a10) k10 b10
  have O11 := (by exact ok_bells_here F11 T  : FnOk l.prog w K mg base CX0 1 _ _ _ (spO K 2 S_bells_here))
  have C11 := FnOk.cal O11 (PySem.W.mg_of X G a11) k11 b11
  have O12 := (by exact ok_heard F12 T C11 : FnOk l.prog w K mg base CX0 2 _ _ _ (spO K 2 S_heard))
  have C12 := FnOk.cal O12 (PySem.W.mg_of X G a12) k12 b12
  have O13 := (by exact ok_names_of F13 T  : FnOk l.prog w K mg base CX0 1 _ _ _ (spO K 1 S_names_of))
  have C13 := FnOk.cal O13 (PySem.W.mg_of X G a13) k13 b13
  have O14 := (by exact ok_turned F14 T C13 : FnOk l.prog w K mg base CX0 2 _ _ _ (spO K 3 S_turned))
  have C14 := FnOk.cal O14 (PySem.W.mg_of X G a14) k14 b14
  have O15 := (by exact ok_told_oddly F15 T C11 C13 : FnOk l.prog w K mg base CX0 2 _ _ _ (spO K 2 S_told_oddly))
  have C15 := FnOk.cal O15 (PySem.W.mg_of X G a15) k15 b15
  have O16 := (by exact ok_rung F16 T C14 C15 : FnOk l.prog w K mg base CX0 3 _ _ _ (spO K 2 S_rung))
  have C16 := FnOk.cal O16 (PySem.W.mg_of X G a16) k16 b16
  have O17 := (by exact ok_stepped F17 T  : FnOk l.prog w K mg base CX0 1 _ _ _ (spO K 2 S_stepped))
  have C17 := FnOk.cal O17 (PySem.W.mg_of X G a17) k17 b17
  have O18 := (by exact ok_beaten F18 T C16 C17 : FnOk l.prog w K mg base CX0 4 _ _ _ (spO K 3 S_beaten))
  have K18_0 := FnOk.calD (np := 2) (ks := []) (pm := [.a 0, .a 1, .d (.int 1)]) [("beats", .int 1)] [0, 1, 2] O18 (funD_mk (st := s_beaten) (kws := [("beats", .int 1)]) l18 c18 k18 (fun q hq => by simp only [List.mem_cons, List.not_mem_nil, or_false] at hq; subst hq; first | exact ⟨_, d18_beats, rfl⟩ | exact ⟨_, d18_beats, ⟨_, rfl⟩⟩)) (PySem.W.mg_of X G a18) (by simp) (by simp) (fun D doc pm an cdv ct us mv ws l1 l2 l3 => match us, mv, ws, l1, l2, l3 with | [_, _], [_], [], _, _, _ => ⟨_, _, _, _, _, _, rfl, rfl, rfl⟩) (fun vs zs l1 l2 => match vs, zs, l1, l2 with | [_, _], [], _, _ => rfl)
  have K18_1 := FnOk.calD (np := 2) (ks := ["beats"]) (pm := [.a 0, .a 1, .a 2]) [] [0, 1, 2] O18 (funD_mk (st := s_beaten) (kws := [("beats", .int 1)]) l18 c18 k18 (fun q hq => by simp only [List.mem_cons, List.not_mem_nil, or_false] at hq; subst hq; first | exact ⟨_, d18_beats, rfl⟩ | exact ⟨_, d18_beats, ⟨_, rfl⟩⟩)) (PySem.W.mg_of X G a18) (by simp) (by simp) (fun D doc pm an cdv ct us mv ws l1 l2 l3 => match us, mv, ws, l1, l2, l3 with | [_, _], [], [_], _, _, _ => rfl) (fun vs zs l1 l2 => match vs, zs, l1, l2 with | [_, _], [_], _, _ => rfl)
  have O19 := (by exact ok_passed F19 T K18_0 : FnOk l.prog w K mg base CX0 5 _ _ _ (spO K 3 S_passed))
  have C19 := FnOk.cal O19 (PySem.W.mg_of X G a19) k19 b19
  have O20 := (by exact ok_hearing F20 T C12 C19 : FnOk l.prog w K mg base CX0 6 _ _ _ (spO K 3 S_hearing))
  have C20 := FnOk.cal O20 (PySem.W.mg_of X G a20) k20 b20
  have O21 := (by exact ok_deed_done F21 T C14 C16 C20 K18_1 : FnOk l.prog w K mg base CX0 7 _ _ _ (spO K 3 S_deed_done))
  have C21 := FnOk.cal O21 (PySem.W.mg_of X G a21) k21 b21
  have O22 := (by exact ok_doneX F22 T C12 C21 : FnOk l.prog w K mg base CX0 8 _ _ _ (spO K 3 S_doneX))
  have C22 := FnOk.cal O22 (PySem.W.mg_of X G a22) k22 b22
  have K22_2 := FnOk.calK (np := 0) (ks := ["history", "standing", "house"]) (pm := [.a 2, .a 1, .a 0]) O22 (PySem.W.mg_of X G a22) k22 (kbn_mk (by decide) fun us ws l1 l2 => match us, ws, l1, l2 with | [], [_, _, _], _, _ => rfl) fun vs zs l1 l2 => pmL_eq rfl l1 l2
  have O23 := (by exact ok_law_count F23 T C0 : FnOk l.prog w K mg base CX0 2 _ _ _ (spO K 2 S_law_count))
  have C23 := FnOk.cal O23 (PySem.W.mg_of X G a23) k23 b23
  have O24 := (by exact ok_law_alike F24 T (PySem.W.mg_of X G a24) b24  6 (by decide) : FnOk l.prog w K mg base CX0 (1 + 6) _ _ _ (spO K 2 (S_law_alike 6)))
  have C24 := FnOk.cal O24 (PySem.W.mg_of X G a24) k24 b24
  have O25 := (by exact ok_law_here F25 T  : FnOk l.prog w K mg base CX0 1 _ _ _ (spO K 2 S_law_here))
  have C25 := FnOk.cal O25 (PySem.W.mg_of X G a25) k25 b25
  have O26 := (by exact ok_law_heard F26 T C25 : FnOk l.prog w K mg base CX0 2 _ _ _ (spO K 2 S_law_heard))
  have C26 := FnOk.cal O26 (PySem.W.mg_of X G a26) k26 b26
  have O27 := (by exact ok_law_flip F27 T C7 : FnOk l.prog w K mg base CX0 2 _ _ _ (spO K 3 S_law_flip))
  have C27 := FnOk.cal O27 (PySem.W.mg_of X G a27) k27 b27
  have O28 := (by exact ok_law_rung F28 T C25 C27 : FnOk l.prog w K mg base CX0 3 _ _ _ (spO K 2 S_law_rung))
  have C28 := FnOk.cal O28 (PySem.W.mg_of X G a28) k28 b28
  have O29 := (by exact ok_law_gone F29 T  : FnOk l.prog w K mg base CX0 1 _ _ _ (spO K 2 S_law_gone))
  have C29 := FnOk.cal O29 (PySem.W.mg_of X G a29) k29 b29
  have O30 := (by exact ok_law_beat F30 T C28 C29 : FnOk l.prog w K mg base CX0 4 _ _ _ (spO K 2 S_law_beat))
  have C30 := FnOk.cal O30 (PySem.W.mg_of X G a30) k30 b30
  have O31 := (by exact ok_law_walk F31 T C30 : FnOk l.prog w K mg base CX0 5 _ _ _ (spO K 3 S_law_walk))
  have C31 := FnOk.cal O31 (PySem.W.mg_of X G a31) k31 b31
  have O32 := (by exact ok_law_led F32 T C27 C28 C31 : FnOk l.prog w K mg base CX0 6 _ _ _ (spO K 3 S_law_led))
  have C32 := FnOk.cal O32 (PySem.W.mg_of X G a32) k32 b32
  have O33 := (by exact ok_law_done F33 T C26 C32 : FnOk l.prog w K mg base CX0 7 _ _ _ (spO K 3 S_law_done))
  have C33 := FnOk.cal O33 (PySem.W.mg_of X G a33) k33 b33
  exact ok_law F34 T C0 C1 C4 C5 C6 C10 C22 C23 C24 C33 K22_2
end PW

open PySem PySem.W PyProof.Rows in
set_option maxRecDepth 100000 in
set_option maxHeartbeats 0 in
theorem PySem.Challenge.cw_turnround_k19_histories_done_holds : PySem.Challenge.rw_turnround_k19_histories_done.Holds := by
  w_on; o_law; k_head; (case hw => w_witness2)
  k_fill
  refine PW.law_walkG (l := PySem.Challenge.rw_turnround_k19_histories_done) (k := 9) (x := "_law_script") rfl rfl ⟨rfl, by decide, by decide⟩ (fun w h Y => PySem.W.kIn_of Y) ?F
  case F =>
    intro w mg fa h KX G hmg
    refine' PW.all_mk KX G hmg ?a0 ?l0 ?c0 ?k0 ?a1 ?l1 ?c1 ?k1 ?a2 ?l2 ?c2 ?k2 ?a3 ?l3 ?c3 ?k3 ?a4 ?l4 ?c4 ?k4 ?a5 ?l5 ?c5 ?k5 ?a6 ?l6 ?c6 ?k6 ?a7 ?l7 ?c7 ?k7 ?a8 ?l8 ?c8 ?k8 ?a9 ?l9 ?c9 ?k9 ?a10 ?l10 ?c10 ?k10 ?a11 ?l11 ?c11 ?k11 ?a12 ?l12 ?c12 ?k12 ?a13 ?l13 ?c13 ?k13 ?a14 ?l14 ?c14 ?k14 ?a15 ?l15 ?c15 ?k15 ?a16 ?l16 ?c16 ?k16 ?a17 ?l17 ?c17 ?k17 ?a18 ?l18 ?c18 ?k18 ?d18_beats ?a19 ?l19 ?c19 ?k19 ?a20 ?l20 ?c20 ?k20 ?a21 ?l21 ?c21 ?k21 ?a22 ?l22 ?c22 ?k22 ?a23 ?l23 ?c23 ?k23 ?a24 ?l24 ?c24 ?k24 ?a25 ?l25 ?c25 ?k25 ?a26 ?l26 ?c26 ?k26 ?a27 ?l27 ?c27 ?k27 ?a28 ?l28 ?c28 ?k28 ?a29 ?l29 ?c29 ?k29 ?a30 ?l30 ?c30 ?k30 ?a31 ?l31 ?c31 ?k31 ?a32 ?l32 ?c32 ?k32 ?a33 ?l33 ?c33 ?k33 ?a34 ?l34 ?c34 ?k34 ?z_abs ?z_all ?z_bool ?z_enumerate ?z_int ?z_isinstance ?z_len ?z_list ?z_max ?z_min ?z_range ?z_repr ?z_sorted ?z_sum ?z_tuple ?z_zip
    (case a0 => k_is)
    (case l0 => k_is)
    (case c0 => k_is)
    (case k0 => k_is)
    (case a1 => k_is)
    (case l1 => k_is)
    (case c1 => k_is)
    (case k1 => k_is)
    (case a2 => k_is)
    (case l2 => k_is)
    (case c2 => k_is)
    (case k2 => k_is)
    (case a3 => k_is)
    (case l3 => k_is)
    (case c3 => k_is)
    (case k3 => k_is)
    (case a4 => k_is)
    (case l4 => k_is)
    (case c4 => k_is)
    (case k4 => k_is)
    (case a5 => k_is)
    (case l5 => k_is)
    (case c5 => k_is)
    (case k5 => k_is)
    (case a6 => k_is)
    (case l6 => k_is)
    (case c6 => k_is)
    (case k6 => k_is)
    (case a7 => k_is)
    (case l7 => k_is)
    (case c7 => k_is)
    (case k7 => k_is)
    (case a8 => k_is)
    (case l8 => k_is)
    (case c8 => k_is)
    (case k8 => k_is)
    (case a9 => k_is)
    (case l9 => k_is)
    (case c9 => k_is)
    (case k9 => k_is)
    (case a10 => k_is)
    (case l10 => k_is)
    (case c10 => k_is)
    (case k10 => k_is)
    (case a11 => k_is)
    (case l11 => k_is)
    (case c11 => k_is)
    (case k11 => k_is)
    (case a12 => k_is)
    (case l12 => k_is)
    (case c12 => k_is)
    (case k12 => k_is)
    (case a13 => k_is)
    (case l13 => k_is)
    (case c13 => k_is)
    (case k13 => k_is)
    (case a14 => k_is)
    (case l14 => k_is)
    (case c14 => k_is)
    (case k14 => k_is)
    (case a15 => k_is)
    (case l15 => k_is)
    (case c15 => k_is)
    (case k15 => k_is)
    (case a16 => k_is)
    (case l16 => k_is)
    (case c16 => k_is)
    (case k16 => k_is)
    (case a17 => k_is)
    (case l17 => k_is)
    (case c17 => k_is)
    (case k17 => k_is)
    (case a18 => k_is)
    (case l18 => k_is)
    (case c18 => k_is)
    (case k18 => k_is)
    (case d18_beats => k_is)
    (case a19 => k_is)
    (case l19 => k_is)
    (case c19 => k_is)
    (case k19 => k_is)
    (case a20 => k_is)
    (case l20 => k_is)
    (case c20 => k_is)
    (case k20 => k_is)
    (case a21 => k_is)
    (case l21 => k_is)
    (case c21 => k_is)
    (case k21 => k_is)
    (case a22 => k_is)
    (case l22 => k_is)
    (case c22 => k_is)
    (case k22 => k_is)
    (case a23 => k_is)
    (case l23 => k_is)
    (case c23 => k_is)
    (case k23 => k_is)
    (case a24 => k_is)
    (case l24 => k_is)
    (case c24 => k_is)
    (case k24 => k_is)
    (case a25 => k_is)
    (case l25 => k_is)
    (case c25 => k_is)
    (case k25 => k_is)
    (case a26 => k_is)
    (case l26 => k_is)
    (case c26 => k_is)
    (case k26 => k_is)
    (case a27 => k_is)
    (case l27 => k_is)
    (case c27 => k_is)
    (case k27 => k_is)
    (case a28 => k_is)
    (case l28 => k_is)
    (case c28 => k_is)
    (case k28 => k_is)
    (case a29 => k_is)
    (case l29 => k_is)
    (case c29 => k_is)
    (case k29 => k_is)
    (case a30 => k_is)
    (case l30 => k_is)
    (case c30 => k_is)
    (case k30 => k_is)
    (case a31 => k_is)
    (case l31 => k_is)
    (case c31 => k_is)
    (case k31 => k_is)
    (case a32 => k_is)
    (case l32 => k_is)
    (case c32 => k_is)
    (case k32 => k_is)
    (case a33 => k_is)
    (case l33 => k_is)
    (case c33 => k_is)
    (case k33 => k_is)
    (case a34 => k_is)
    (case l34 => k_is)
    (case c34 => k_is)
    (case k34 => k_is)
    (case z_abs => k_is)
    (case z_all => k_is)
    (case z_bool => k_is)
    (case z_enumerate => k_is)
    (case z_int => k_is)
    (case z_isinstance => k_is)
    (case z_len => k_is)
    (case z_list => k_is)
    (case z_max => k_is)
    (case z_min => k_is)
    (case z_range => k_is)
    (case z_repr => k_is)
    (case z_sorted => k_is)
    (case z_sum => k_is)
    (case z_tuple => k_is)
    (case z_zip => k_is)
#print axioms PySem.Challenge.cw_turnround_k19_histories_done_holds
end DVk19
