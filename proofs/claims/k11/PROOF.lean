import PyProof.Rows.All
import Wide.All
import OpenK.AllK
import Wide.FinOn
import HandS.ForMost
import HandS.Flow
import HandS.Style
import HandS.IsInst
import HandS.TupAny
import HandS.StrMore
import HandS.Wide
import HandS.RaiseMore
import HandS.HeadEnd
import HandS.EndBits
import HandS.HeadHook2
import PyProof.StrLawsFrom
import PySem.Challenge.RW_formscountry_k11_whole_words_of_texts
import HandS.Text
import HandS.Head0
import HandS.Head1
import HandS.Head2
section
set_option Elab.async false
set_option linter.all false
set_option maxRecDepth 100000
/-! Q1: plain data behind values, own trees, and the state that holds both. -/
namespace Qv
open PySem PySem.Spec PyProof.Rows L2

abbrev Frag := PySem.W.Frag
def kD : Key → PyData
  | .inl i => .int i
  | .inr x => .str x

mutual
/-- a value that shows data, by objects of the heap G that nobody changes any more -/
def Sh (K : Frag) (G : Hp) : PyData → V → Prop
  | .none, v => v = .non
  | .bool b, v => v = .bl b
  | .int i, v => v = .int i
  | .str x, v => v = .str x
  | .list ds, v => ∃ a vs, v = .ref a ∧ G a = some (.lst vs) ∧ ShL K G ds vs
  | .tuple ds, v => ∃ a vs, v = .ref a ∧ SqT K G a vs ∧ ShL K G ds vs
  | .dict kvs, v => ∃ a xs, v = .ref a ∧ G a = some (.dK xs) ∧ ShD K G kvs xs
def ShL (K : Frag) (G : Hp) : List PyData → List V → Prop
  | [], vs => vs = []
  | d :: ds, vs => ∃ v r, vs = v :: r ∧ Sh K G d v ∧ ShL K G ds r
def ShD (K : Frag) (G : Hp) : List (PyData × PyData) → List (Key × V) → Prop
  | [], xs => xs = []
  | (k, d) :: r, xs => ∃ key v t, xs = (key, v) :: t ∧ k = kD key ∧ Sh K G d v ∧ ShD K G r t
end

def Sub (G H : Hp) : Prop := ∀ a u, G a = some u → H a = some u
theorem Sub.refl (G : Hp) : Sub G G := fun _ _ h => h
theorem Sub.trans {G H J : Hp} (a : Sub G H) (b : Sub H J) : Sub G J := fun x u h => b x u (a x u h)
theorem Sub.sqL {K : Frag} {G G' : Hp} {a : Addr} {vs : List V} (s : Sub G G') (h : SqL K G a vs) : SqL K G' a vs := by
  rcases h with (h | ⟨o, h⟩) | h
  · exact .inl (.inl (s _ _ h))
  · exact .inl (.inr ⟨o, s _ _ h⟩)
  · exact .inr h
theorem Sub.sqT {K : Frag} {G G' : Hp} {a : Addr} {vs : List V} (s : Sub G G') (h : SqT K G a vs) : SqT K G' a vs := by
  rcases h with (h | ⟨o, h⟩) | h
  · exact .inl (.inl (s _ _ h))
  · exact .inl (.inr ⟨o, s _ _ h⟩)
  · exact .inr h
theorem Sub.upd {G H : Hp} {p : Addr} {u : HO} (s : Sub G H) (hp : G p = none) : Sub G (upd H p u) := fun a w h => by
  have : a ≠ p := fun e => by rw [e, hp] at h; cases h
  rw [upd_ne this]
  exact s a w h

section
variable {K : Frag} {G G' : Hp}
mutual
theorem Sh.mono (s : Sub G G') : ∀ (d : PyData) (v : V), Sh K G d v → Sh K G' d v
  | .none, _, h => by simpa only [Sh] using h
  | .bool _, _, h => by simpa only [Sh] using h
  | .int _, _, h => by simpa only [Sh] using h
  | .str _, _, h => by simpa only [Sh] using h
  | .list ds, v, h => by
    simp only [Sh] at h ⊢
    obtain ⟨a, vs, e, q, r⟩ := h
    exact ⟨a, vs, e, s _ _ q, ShL.mono s ds vs r⟩
  | .tuple ds, v, h => by
    simp only [Sh] at h ⊢
    obtain ⟨a, vs, e, q, r⟩ := h
    exact ⟨a, vs, e, s.sqT q, ShL.mono s ds vs r⟩
  | .dict kvs, v, h => by
    simp only [Sh] at h ⊢
    obtain ⟨a, xs, e, q, r⟩ := h
    exact ⟨a, xs, e, s _ _ q, ShD.mono s kvs xs r⟩
theorem ShL.mono (s : Sub G G') : ∀ (ds : List PyData) (vs : List V), ShL K G ds vs → ShL K G' ds vs
  | [], _, h => by simpa only [ShL] using h
  | d :: ds, vs, h => by
    simp only [ShL] at h ⊢
    obtain ⟨v, r, e, q, t⟩ := h
    exact ⟨v, r, e, Sh.mono s d v q, ShL.mono s ds r t⟩
theorem ShD.mono (s : Sub G G') : ∀ (kvs : List (PyData × PyData)) (xs : List (Key × V)), ShD K G kvs xs → ShD K G' kvs xs
  | [], _, h => by simpa only [ShD] using h
  | (k, d) :: r, xs, h => by
    simp only [ShD] at h ⊢
    obtain ⟨key, v, t, e, e2, q, z⟩ := h
    exact ⟨key, v, t, e, e2, Sh.mono s d v q, ShD.mono s r t z⟩
end
theorem ShL.len : ∀ {ds : List PyData} {vs : List V}, ShL K G ds vs → ds.length = vs.length
  | [], _, h => by
    simp only [ShL] at h
    rw [h]
    rfl
  | d :: ds, vs, h => by
    simp only [ShL] at h
    obtain ⟨v, r, e, _, t⟩ := h
    rw [e, List.length_cons, List.length_cons, ShL.len t]
theorem ShL.get : ∀ {ds : List PyData} {vs : List V} {i : Nat} {d : PyData}, ShL K G ds vs → ds[i]? = some d → ∃ v, vs[i]? = some v ∧ Sh K G d v
  | [], _, _, _, _, e => by simp at e
  | d :: ds, vs, 0, x, h, e => by
    simp only [ShL] at h
    obtain ⟨v, r, rfl, q, _⟩ := h
    simp at e
    subst e
    exact ⟨v, rfl, q⟩
  | d :: ds, vs, i + 1, x, h, e => by
    simp only [ShL] at h
    obtain ⟨v, r, rfl, _, t⟩ := h
    obtain ⟨w, e1, q⟩ := ShL.get (i := i) t (by simpa using e)
    exact ⟨w, by simpa using e1, q⟩
theorem ShL.append : ∀ {ds es : List PyData} {vs ws : List V}, ShL K G ds vs → ShL K G es ws → ShL K G (ds ++ es) (vs ++ ws)
  | [], es, vs, ws, h, h2 => by
    simp only [ShL] at h
    subst h
    exact h2
  | d :: ds, es, vs, ws, h, h2 => by
    simp only [ShL] at h
    obtain ⟨v, r, rfl, q, t⟩ := h
    simp only [List.cons_append, ShL]
    exact ⟨v, r ++ ws, rfl, q, ShL.append t h2⟩
theorem ShL.take : ∀ {ds : List PyData} {vs : List V} (n : Nat), ShL K G ds vs → ShL K G (ds.take n) (vs.take n)
  | ds, vs, 0, h => by simp only [List.take_zero, ShL]
  | [], vs, n + 1, h => by
    simp only [ShL] at h
    subst h
    simp only [List.take_nil, ShL]
  | d :: ds, vs, n + 1, h => by
    simp only [ShL] at h
    obtain ⟨v, r, rfl, q, t⟩ := h
    simp only [List.take_succ_cons, ShL]
    exact ⟨v, _, rfl, q, ShL.take n t⟩
theorem ShL.drop : ∀ {ds : List PyData} {vs : List V} (n : Nat), ShL K G ds vs → ShL K G (ds.drop n) (vs.drop n)
  | ds, vs, 0, h => by simpa only [List.drop_zero] using h
  | [], vs, n + 1, h => by
    simp only [ShL] at h
    subst h
    simp only [List.drop_nil, ShL]
  | d :: ds, vs, n + 1, h => by
    simp only [ShL] at h
    obtain ⟨v, r, rfl, q, t⟩ := h
    simp only [List.drop_succ_cons]
    exact ShL.drop n t
theorem ShL.reverse : ∀ {ds : List PyData} {vs : List V}, ShL K G ds vs → ShL K G ds.reverse vs.reverse
  | [], vs, h => by
    simp only [ShL] at h
    subst h
    simp only [List.reverse_nil, ShL]
  | d :: ds, vs, h => by
    simp only [ShL] at h
    obtain ⟨v, r, rfl, q, t⟩ := h
    rw [List.reverse_cons, List.reverse_cons]
    exact ShL.append (ShL.reverse t) (by simp only [ShL]; exact ⟨v, [], rfl, q, rfl⟩)
theorem ShL.set : ∀ {ds : List PyData} {vs : List V} {d : PyData} {v : V} (i : Nat), Sh K G d v → ShL K G ds vs → ShL K G (ds.set i d) (vs.set i v)
  | [], vs, _, _, i, _, h => by
    simp only [ShL] at h
    subst h
    simp only [List.set_nil, ShL]
  | d :: ds, vs, x, w, 0, q2, h => by
    simp only [ShL] at h
    obtain ⟨v, r, rfl, q, t⟩ := h
    simp only [List.set_cons_zero, ShL]
    exact ⟨w, r, rfl, q2, t⟩
  | d :: ds, vs, x, w, i + 1, q2, h => by
    simp only [ShL] at h
    obtain ⟨v, r, rfl, q, t⟩ := h
    simp only [List.set_cons_succ, ShL]
    exact ⟨v, _, rfl, q, ShL.set i q2 t⟩
end

/-! ### own trees -/
/-- what a slot holds: data that nobody changes any more; a list, a tuple, a dict of one's own -/
inductive O where
  | sh (d : PyData)
  | ol (os : List O)
  | ot (os : List O)
  | od (kvs : List (Key × O))

mutual
/-- its data -/
def O.d : O → PyData
  | .sh d => d
  | .ol os => .list (O.dL os)
  | .ot os => .tuple (O.dL os)
  | .od kvs => .dict (O.dK kvs)
def O.dL : List O → List PyData
  | [] => []
  | o :: os => o.d :: O.dL os
def O.dK : List (Key × O) → List (PyData × PyData)
  | [] => []
  | (k, o) :: r => (kD k, o.d) :: O.dK r
end
theorem O.dL_map : ∀ os : List O, O.dL os = os.map O.d
  | [] => by simp only [O.dL, List.map_nil]
  | o :: os => by simp only [O.dL, List.map_cons, O.dL_map os]

mutual
/-- an own tree at a value: its objects at A, all others of G -/
def Ow (K : Frag) (G H : Hp) : O → V → List Addr → Prop
  | .sh d, v, A => A = [] ∧ Sh K G d v
  | .ol os, v, A => ∃ a vs B, v = .ref a ∧ H a = some (.lst vs) ∧ OwL K G H os vs B ∧ A = a :: B
  | .ot os, v, A => ∃ a vs B, v = .ref a ∧ H a = some (.tup vs) ∧ OwL K G H os vs B ∧ A = a :: B
  | .od kvs, v, A => ∃ a xs B, v = .ref a ∧ H a = some (.dK xs) ∧ OwD K G H kvs xs B ∧ A = a :: B
def OwL (K : Frag) (G H : Hp) : List O → List V → List Addr → Prop
  | [], vs, A => vs = [] ∧ A = []
  | o :: os, vs, A => ∃ v r B C, vs = v :: r ∧ Ow K G H o v B ∧ OwL K G H os r C ∧ A = B ++ C
def OwD (K : Frag) (G H : Hp) : List (Key × O) → List (Key × V) → List Addr → Prop
  | [], xs, A => xs = [] ∧ A = []
  | (k, o) :: r, xs, A => ∃ v t B C, xs = (k, v) :: t ∧ Ow K G H o v B ∧ OwD K G H r t C ∧ A = B ++ C
end

section
variable {K : Frag} {G G' H H' : Hp}
mutual
theorem Ow.mono (s : Sub G G') : ∀ (o : O) (v : V) (A : List Addr), (∀ a ∈ A, H' a = H a) → Ow K G H o v A → Ow K G' H' o v A
  | .sh d, v, A, _, h => by
    simp only [Ow] at h ⊢
    exact ⟨h.1, Sh.mono s d v h.2⟩
  | .ol os, v, A, k, h => by
    simp only [Ow] at h ⊢
    obtain ⟨a, vs, B, e, q, r, rfl⟩ := h
    exact ⟨a, vs, B, e, by rw [k a List.mem_cons_self]; exact q, OwL.mono s os vs B (fun b hb => k b (List.mem_cons_of_mem _ hb)) r, rfl⟩
  | .ot os, v, A, k, h => by
    simp only [Ow] at h ⊢
    obtain ⟨a, vs, B, e, q, r, rfl⟩ := h
    exact ⟨a, vs, B, e, by rw [k a List.mem_cons_self]; exact q, OwL.mono s os vs B (fun b hb => k b (List.mem_cons_of_mem _ hb)) r, rfl⟩
  | .od kvs, v, A, k, h => by
    simp only [Ow] at h ⊢
    obtain ⟨a, vs, B, e, q, r, rfl⟩ := h
    exact ⟨a, vs, B, e, by rw [k a List.mem_cons_self]; exact q, OwD.mono s kvs vs B (fun b hb => k b (List.mem_cons_of_mem _ hb)) r, rfl⟩
theorem OwL.mono (s : Sub G G') : ∀ (os : List O) (vs : List V) (A : List Addr), (∀ a ∈ A, H' a = H a) → OwL K G H os vs A → OwL K G' H' os vs A
  | [], vs, A, _, h => by simpa only [OwL] using h
  | o :: os, vs, A, k, h => by
    simp only [OwL] at h ⊢
    obtain ⟨v, r, B, C, e, q, t, rfl⟩ := h
    exact ⟨v, r, B, C, e, Ow.mono s o v B (fun b hb => k b (List.mem_append_left _ hb)) q, OwL.mono s os r C (fun b hb => k b (List.mem_append_right _ hb)) t, rfl⟩
theorem OwD.mono (s : Sub G G') : ∀ (kvs : List (Key × O)) (xs : List (Key × V)) (A : List Addr), (∀ a ∈ A, H' a = H a) → OwD K G H kvs xs A → OwD K G' H' kvs xs A
  | [], vs, A, _, h => by simpa only [OwD] using h
  | (ky, o) :: os, vs, A, k, h => by
    simp only [OwD] at h ⊢
    obtain ⟨v, r, B, C, e, q, t, rfl⟩ := h
    exact ⟨v, r, B, C, e, Ow.mono s o v B (fun b hb => k b (List.mem_append_left _ hb)) q, OwD.mono s os r C (fun b hb => k b (List.mem_append_right _ hb)) t, rfl⟩
end
mutual
theorem Ow.there : ∀ (o : O) (v : V) (A : List Addr), Ow K G H o v A → ∀ a ∈ A, ∃ u, H a = some u
  | .sh d, v, A, h => by
    simp only [Ow] at h
    intro a ha
    rw [h.1] at ha
    cases ha
  | .ol os, v, A, h => by
    simp only [Ow] at h
    obtain ⟨a, vs, B, e, q, r, rfl⟩ := h
    intro b hb
    rcases List.mem_cons.mp hb with rfl | hb
    · exact ⟨_, q⟩
    · exact OwL.there os vs B r b hb
  | .ot os, v, A, h => by
    simp only [Ow] at h
    obtain ⟨a, vs, B, e, q, r, rfl⟩ := h
    intro b hb
    rcases List.mem_cons.mp hb with rfl | hb
    · exact ⟨_, q⟩
    · exact OwL.there os vs B r b hb
  | .od kvs, v, A, h => by
    simp only [Ow] at h
    obtain ⟨a, vs, B, e, q, r, rfl⟩ := h
    intro b hb
    rcases List.mem_cons.mp hb with rfl | hb
    · exact ⟨_, q⟩
    · exact OwD.there kvs vs B r b hb
theorem OwL.there : ∀ (os : List O) (vs : List V) (A : List Addr), OwL K G H os vs A → ∀ a ∈ A, ∃ u, H a = some u
  | [], vs, A, h => by
    simp only [OwL] at h
    intro a ha
    rw [h.2] at ha
    cases ha
  | o :: os, vs, A, h => by
    simp only [OwL] at h
    obtain ⟨v, r, B, C, e, q, t, rfl⟩ := h
    intro b hb
    rcases List.mem_append.mp hb with hb | hb
    · exact Ow.there o v B q b hb
    · exact OwL.there os r C t b hb
theorem OwD.there : ∀ (os : List (Key × O)) (vs : List (Key × V)) (A : List Addr), OwD K G H os vs A → ∀ a ∈ A, ∃ u, H a = some u
  | [], vs, A, h => by
    simp only [OwD] at h
    intro a ha
    rw [h.2] at ha
    cases ha
  | (k, o) :: os, vs, A, h => by
    simp only [OwD] at h
    obtain ⟨v, r, B, C, e, q, t, rfl⟩ := h
    intro b hb
    rcases List.mem_append.mp hb with hb | hb
    · exact Ow.there o v B q b hb
    · exact OwD.there os r C t b hb
end
mutual
/-- an own tree that nobody changes any more: G' holds its objects, too -/
theorem Ow.fz (s : Sub G G') : ∀ (o : O) (v : V) (A : List Addr), (∀ a ∈ A, G' a = H a) → Ow K G H o v A → Sh K G' o.d v
  | .sh d, v, A, _, h => by
    simp only [Ow] at h
    simp only [O.d]
    exact Sh.mono s d v h.2
  | .ol os, v, A, k, h => by
    simp only [Ow] at h
    obtain ⟨a, vs, B, e, q, r, rfl⟩ := h
    simp only [O.d, Sh]
    exact ⟨a, vs, e, by rw [k a List.mem_cons_self]; exact q, OwL.fz s os vs B (fun b hb => k b (List.mem_cons_of_mem _ hb)) r⟩
  | .ot os, v, A, k, h => by
    simp only [Ow] at h
    obtain ⟨a, vs, B, e, q, r, rfl⟩ := h
    simp only [O.d, Sh]
    exact ⟨a, vs, e, .of (by rw [k a List.mem_cons_self]; exact q), OwL.fz s os vs B (fun b hb => k b (List.mem_cons_of_mem _ hb)) r⟩
  | .od kvs, v, A, k, h => by
    simp only [Ow] at h
    obtain ⟨a, vs, B, e, q, r, rfl⟩ := h
    simp only [O.d, Sh]
    exact ⟨a, vs, e, by rw [k a List.mem_cons_self]; exact q, OwD.fz s kvs vs B (fun b hb => k b (List.mem_cons_of_mem _ hb)) r⟩
theorem OwL.fz (s : Sub G G') : ∀ (os : List O) (vs : List V) (A : List Addr), (∀ a ∈ A, G' a = H a) → OwL K G H os vs A → ShL K G' (O.dL os) vs
  | [], vs, A, _, h => by
    simp only [OwL] at h
    simp only [O.dL, ShL]
    exact h.1
  | o :: os, vs, A, k, h => by
    simp only [OwL] at h
    obtain ⟨v, r, B, C, e, q, t, rfl⟩ := h
    simp only [O.dL, ShL]
    exact ⟨v, r, e, Ow.fz s o v B (fun b hb => k b (List.mem_append_left _ hb)) q, OwL.fz s os r C (fun b hb => k b (List.mem_append_right _ hb)) t⟩
theorem OwD.fz (s : Sub G G') : ∀ (os : List (Key × O)) (vs : List (Key × V)) (A : List Addr), (∀ a ∈ A, G' a = H a) → OwD K G H os vs A → ShD K G' (O.dK os) vs
  | [], vs, A, _, h => by
    simp only [OwD] at h
    simp only [O.dK, ShD]
    exact h.1
  | (ky, o) :: os, vs, A, k, h => by
    simp only [OwD] at h
    obtain ⟨v, r, B, C, e, q, t, rfl⟩ := h
    simp only [O.dK, ShD]
    exact ⟨ky, v, r, e, rfl, Ow.fz s o v B (fun b hb => k b (List.mem_append_left _ hb)) q, OwD.fz s os r C (fun b hb => k b (List.mem_append_right _ hb)) t⟩
end
end

/-! ### the state: entries, each an own tree at a value, or a shell (an object of one's own whose content isn't told) -/
abbrev En := Option O × V
def OwE (K : Frag) (G H : Hp) : En → List Addr → Prop
  | (some o, v), A => Ow K G H o v A
  | (none, v), A => ∃ a u, v = .ref a ∧ A = [a] ∧ H a = some u
def PL (K : Frag) (G H : Hp) : List En → List Addr → Prop
  | [], A => A = []
  | e :: L, A => ∃ B C, OwE K G H e B ∧ PL K G H L C ∧ A = B ++ C
def Wd (K : Frag) (H : Hp) (L : List En) : Prop := ∃ G A, Sub G H ∧ PL K G H L A ∧ A.Nodup ∧ ∀ a ∈ A, G a = none

section
variable {K : Frag} {G G' H H' : Hp} {L L' : List En} {A : List Addr}
theorem OwE.mono (s : Sub G G') : ∀ (e : En) (A : List Addr), (∀ a ∈ A, H' a = H a) → OwE K G H e A → OwE K G' H' e A
  | (some o, v), A, k, h => Ow.mono s o v A k h
  | (none, v), A, k, h => by
    obtain ⟨a, u, e, rfl, q⟩ := h
    exact ⟨a, u, e, rfl, by rw [k a List.mem_cons_self]; exact q⟩
theorem OwE.there : ∀ (e : En) (A : List Addr), OwE K G H e A → ∀ a ∈ A, ∃ u, H a = some u
  | (some o, v), A, h => Ow.there o v A h
  | (none, v), A, h => by
    obtain ⟨a, u, e, rfl, q⟩ := h
    intro b hb
    rcases List.mem_cons.mp hb with rfl | hb
    · exact ⟨u, q⟩
    · cases hb
theorem PL.mono (s : Sub G G') : ∀ (L : List En) (A : List Addr), (∀ a ∈ A, H' a = H a) → PL K G H L A → PL K G' H' L A
  | [], A, _, h => h
  | e :: L, A, k, h => by
    obtain ⟨B, C, h1, h2, rfl⟩ := h
    exact ⟨B, C, OwE.mono s e B (fun b hb => k b (List.mem_append_left _ hb)) h1, PL.mono s L C (fun b hb => k b (List.mem_append_right _ hb)) h2, rfl⟩
theorem PL.there : ∀ (L : List En) (A : List Addr), PL K G H L A → ∀ a ∈ A, ∃ u, H a = some u
  | [], A, h => by
    have h : A = [] := h
    intro a ha
    rw [h] at ha
    cases ha
  | e :: L, A, h => by
    obtain ⟨B, C, h1, h2, rfl⟩ := h
    intro b hb
    rcases List.mem_append.mp hb with hb | hb
    · exact OwE.there e B h1 b hb
    · exact PL.there L C h2 b hb
theorem PL.perm {L L' : List En} (p : L.Perm L') : ∀ A, PL K G H L A → ∃ A', PL K G H L' A' ∧ A.Perm A' := by
  induction p with
  | nil => exact fun A h => ⟨A, h, .refl _⟩
  | cons e _ ih =>
    rintro A ⟨B, C, h1, h2, rfl⟩
    obtain ⟨C', h3, p3⟩ := ih C h2
    exact ⟨B ++ C', ⟨B, C', h1, h3, rfl⟩, p3.append_left B⟩
  | swap e f L =>
    rintro A ⟨B, C, h1, ⟨B2, C2, h2, h3, rfl⟩, rfl⟩
    refine ⟨B2 ++ (B ++ C2), ⟨B2, _, h2, ⟨B, C2, h1, h3, rfl⟩, rfl⟩, ?_⟩
    rw [← List.append_assoc, ← List.append_assoc]
    exact (List.perm_append_comm).append_right C2
  | trans _ _ ih1 ih2 =>
    intro A h
    obtain ⟨A1, h1, p1⟩ := ih1 A h
    obtain ⟨A2, h2, p2⟩ := ih2 A1 h1
    exact ⟨A2, h2, p1.trans p2⟩
theorem Wd.perm (h : Wd K H L) (p : L.Perm L') : Wd K H L' := by
  obtain ⟨G, A, s, q, n, f⟩ := h
  obtain ⟨A', q', p'⟩ := PL.perm p A q
  exact ⟨G, A', s, q', p'.nodup_iff.mp n, fun a ha => f a (p'.mem_iff.mpr ha)⟩
theorem Wd.drop {e : En} (h : Wd K H (e :: L)) : Wd K H L := by
  obtain ⟨G, A, s, ⟨B, C, q1, q2, rfl⟩, n, f⟩ := h
  exact ⟨G, C, s, q2, (List.nodup_append.mp n).2.1, fun a ha => f a (List.mem_append_right _ ha)⟩
theorem Wd.dropL : ∀ (M : List En), Wd K H (M ++ L) → Wd K H L
  | [], h => h
  | e :: M, h => Wd.dropL M (Wd.drop (e := e) h)
/-- an object comes -/
theorem Wd.new {p : Addr} {u : HO} (h : Wd K H L) (hp : H p = none) : Wd K (upd H p u) ((none, .ref p) :: L) := by
  obtain ⟨G, A, s, q, n, f⟩ := h
  have hA : ∀ a ∈ A, a ≠ p := fun a ha e => by
    obtain ⟨w, hw⟩ := PL.there L A q a ha
    rw [e, hp] at hw
    cases hw
  have hG : G p = none := by
    cases e : G p with
    | none => rfl
    | some w =>
      have := s p w e
      rw [hp] at this
      cases this
  refine ⟨G, p :: A, s.upd hG, ⟨[p], A, ⟨p, u, rfl, rfl, upd_same⟩, PL.mono (Sub.refl G) L A (fun a ha => upd_ne (hA a ha)) q, rfl⟩, List.nodup_cons.mpr ⟨fun hm => hA p hm rfl, n⟩, fun a ha => ?_⟩
  rcases List.mem_cons.mp ha with rfl | ha
  · exact hG
  · exact f a ha
/-- .. that is not an own one's -/
theorem Wd.keep {p : Addr} {u : HO} (h : Wd K H L) (hp : H p = none) : Wd K (upd H p u) L := (h.new hp).drop
/-- a shell is filled, or changed -/
theorem Wd.put {a : Addr} {u : HO} (h : Wd K H ((none, .ref a) :: L)) : Wd K (upd H a u) ((none, .ref a) :: L) := by
  obtain ⟨G, A, s, ⟨B, C, ⟨b, w, e, rfl, hb⟩, q, rfl⟩, n, f⟩ := h
  cases e
  have nC : a ∉ C := (List.nodup_cons.mp n).1
  refine ⟨G, a :: C, s.upd (f a List.mem_cons_self), ⟨[a], C, ⟨a, u, rfl, rfl, upd_same⟩, PL.mono (Sub.refl G) L C (fun c hc => upd_ne fun e => nC (e ▸ hc)) q, rfl⟩, n, f⟩
/-- a list of entries side by side with values -/
def ens (os : List O) (vs : List V) : List En := (os.zip vs).map fun p => (some p.1, p.2)
theorem PL.split : ∀ (L M : List En) (A : List Addr), PL K G H (L ++ M) A → ∃ B C, PL K G H L B ∧ PL K G H M C ∧ A = B ++ C
  | [], M, A, h => ⟨[], A, rfl, h, rfl⟩
  | e :: L, M, A, h => by
    obtain ⟨B, C, h1, h2, rfl⟩ := h
    obtain ⟨C1, C2, h3, h4, rfl⟩ := PL.split L M C h2
    exact ⟨B ++ C1, C2, ⟨B, C1, h1, h3, rfl⟩, h4, (List.append_assoc ..).symm⟩
theorem PL.join : ∀ (L M : List En) (B C : List Addr), PL K G H L B → PL K G H M C → PL K G H (L ++ M) (B ++ C)
  | [], M, B, C, h, h2 => by
    have h : B = [] := h
    subst h
    exact h2
  | e :: L, M, A, C, h, h2 => by
    obtain ⟨B1, B2, h3, h4, rfl⟩ := h
    exact ⟨B1, B2 ++ C, h3, PL.join L M B2 C h4 h2, List.append_assoc ..⟩
theorem OwL.pl : ∀ {os : List O} {vs : List V} {A : List Addr}, OwL K G H os vs A → PL K G H (ens os vs) A ∧ os.length = vs.length
  | [], vs, A, h => by
    simp only [OwL] at h
    obtain ⟨rfl, rfl⟩ := h
    exact ⟨rfl, rfl⟩
  | o :: os, vs, A, h => by
    simp only [OwL] at h
    obtain ⟨v, r, B, C, rfl, h1, h2, rfl⟩ := h
    obtain ⟨h3, h4⟩ := OwL.pl h2
    exact ⟨⟨B, C, h1, h3, rfl⟩, by rw [List.length_cons, List.length_cons, h4]⟩
theorem OwL.of_pl : ∀ {os : List O} {vs : List V} {A : List Addr}, os.length = vs.length → PL K G H (ens os vs) A → OwL K G H os vs A
  | [], [], A, _, h => by
    simp only [OwL]
    exact ⟨trivial, h⟩
  | o :: os, v :: vs, A, e, h => by
    obtain ⟨B, C, h1, h2, rfl⟩ := h
    simp only [OwL]
    exact ⟨v, vs, B, C, rfl, h1, OwL.of_pl (by simpa using e) h2, rfl⟩
  | [], _ :: _, _, e, _ => by cases e
  | _ :: _, [], _, e, _ => by cases e
/-- a list of one's own opened: its shell, and what is in it -/
theorem Wd.open {os : List O} {v : V} (h : Wd K H ((some (.ol os), v) :: L)) : ∃ a vs, v = .ref a ∧ H a = some (.lst vs) ∧ os.length = vs.length ∧ Wd K H ((none, .ref a) :: (ens os vs ++ L)) := by
  obtain ⟨G, A, s, ⟨B, C, q1, q2, rfl⟩, n, f⟩ := h
  simp only [OwE, Ow] at q1
  obtain ⟨a, vs, D, rfl, ha, q3, rfl⟩ := q1
  obtain ⟨q4, e⟩ := OwL.pl q3
  exact ⟨a, vs, rfl, ha, e, G, _, s, ⟨[a], D ++ C, ⟨a, _, rfl, rfl, ha⟩, PL.join _ _ _ _ q4 q2, rfl⟩, n, f⟩
theorem Wd.openT {os : List O} {v : V} (h : Wd K H ((some (.ot os), v) :: L)) : ∃ a vs, v = .ref a ∧ H a = some (.tup vs) ∧ os.length = vs.length ∧ Wd K H ((none, .ref a) :: (ens os vs ++ L)) := by
  obtain ⟨G, A, s, ⟨B, C, q1, q2, rfl⟩, n, f⟩ := h
  simp only [OwE, Ow] at q1
  obtain ⟨a, vs, D, rfl, ha, q3, rfl⟩ := q1
  obtain ⟨q4, e⟩ := OwL.pl q3
  exact ⟨a, vs, rfl, ha, e, G, _, s, ⟨[a], D ++ C, ⟨a, _, rfl, rfl, ha⟩, PL.join _ _ _ _ q4 q2, rfl⟩, n, f⟩
theorem Wd.close {a : Addr} {os : List O} {vs : List V} (h : Wd K H ((none, .ref a) :: (ens os vs ++ L))) (e : os.length = vs.length) : Wd K (upd H a (.lst vs)) ((some (.ol os), .ref a) :: L) := by
  obtain ⟨G, A, s, ⟨B, C, ⟨b, w, e1, rfl, hb⟩, q, rfl⟩, n, f⟩ := h.put (u := .lst vs)
  cases e1
  obtain ⟨C1, C2, q1, q2, rfl⟩ := PL.split _ _ _ q
  refine ⟨G, _, s, ⟨a :: C1, C2, ?_, q2, rfl⟩, n, f⟩
  simp only [OwE, Ow]
  exact ⟨a, vs, C1, rfl, upd_same, OwL.of_pl e q1, rfl⟩
theorem Wd.closeT {a : Addr} {os : List O} {vs : List V} (h : Wd K H ((none, .ref a) :: (ens os vs ++ L))) (e : os.length = vs.length) : Wd K (upd H a (.tup vs)) ((some (.ot os), .ref a) :: L) := by
  obtain ⟨G, A, s, ⟨B, C, ⟨b, w, e1, rfl, hb⟩, q, rfl⟩, n, f⟩ := h.put (u := .tup vs)
  cases e1
  obtain ⟨C1, C2, q1, q2, rfl⟩ := PL.split _ _ _ q
  refine ⟨G, _, s, ⟨a :: C1, C2, ?_, q2, rfl⟩, n, f⟩
  simp only [OwE, Ow]
  exact ⟨a, vs, C1, rfl, upd_same, OwL.of_pl e q1, rfl⟩
/-- a new list, tuple of what was made -/
theorem Wd.list {p : Addr} {os : List O} {vs : List V} (h : Wd K H (ens os vs ++ L)) (e : os.length = vs.length) (hp : H p = none) : Wd K (upd H p (.lst vs)) ((some (.ol os), .ref p) :: L) := by
  have q := (h.new (u := .lst vs) hp).close e
  rwa [upd_upd] at q
theorem Wd.tuple {p : Addr} {os : List O} {vs : List V} (h : Wd K H (ens os vs ++ L)) (e : os.length = vs.length) (hp : H p = none) : Wd K (upd H p (.tup vs)) ((some (.ot os), .ref p) :: L) := by
  have q := (h.new (u := .tup vs) hp).closeT e
  rwa [upd_upd] at q
/-- nobody changes it any more -/
theorem Wd.fz {o : O} {v : V} (h : Wd K H ((some o, v) :: L)) : Wd K H ((some (.sh o.d), v) :: L) := by
  obtain ⟨G, A, s, ⟨B, C, q1, q2, rfl⟩, n, f⟩ := h
  obtain ⟨nB, nC, nBC⟩ := List.nodup_append.mp n
  have sG : Sub G (fun a => if a ∈ B then H a else G a) := fun a u h => by
    show (if a ∈ B then H a else G a) = some u
    split
    · exact s a u h
    · exact h
  refine ⟨fun a => if a ∈ B then H a else G a, C, fun a u h => ?_, ⟨[], C, ?_, PL.mono sG L C (fun _ _ => rfl) q2, rfl⟩, nC, fun a ha => ?_⟩
  · have h' : (if a ∈ B then H a else G a) = some u := h
    split at h'
    · exact h'
    · exact s a u h'
  · simp only [OwE, Ow]
    exact ⟨trivial, Ow.fz sG o v B (fun a ha => if_pos ha) q1⟩
  · show (if a ∈ B then H a else G a) = none
    rw [if_neg fun hb => nBC a hb a ha rfl]
    exact f a (List.mem_append_right _ ha)
/-- what nobody changes may be held twice -/
theorem Wd.dup {d : PyData} {v : V} (h : Wd K H ((some (.sh d), v) :: L)) : Wd K H ((some (.sh d), v) :: (some (.sh d), v) :: L) := by
  obtain ⟨G, A, s, ⟨B, C, q1, q2, rfl⟩, n, f⟩ := h
  have q3 : B = [] := by
    simp only [OwE, Ow] at q1
    exact q1.1
  subst q3
  exact ⟨G, C, s, ⟨[], C, q1, ⟨[], C, q1, q2, rfl⟩, rfl⟩, n, f⟩
theorem Wd.dupMem {d : PyData} {v : V} (h : Wd K H L) (m : (some (.sh d), v) ∈ L) : Wd K H ((some (.sh d), v) :: L) := by
  obtain ⟨L1, L2, rfl⟩ := List.append_of_mem m
  have p : (L1 ++ (some (O.sh d), v) :: L2).Perm ((some (O.sh d), v) :: (L1 ++ L2)) := List.perm_middle
  exact (h.perm p).dup.perm (p.symm.cons _)
/-- what needs no object -/
theorem Wd.flat {d : PyData} {v : V} (h : Wd K H L) (q : ∀ G, Sh K G d v) : Wd K H ((some (.sh d), v) :: L) := by
  obtain ⟨G, A, s, q2, n, f⟩ := h
  refine ⟨G, A, s, ⟨[], A, ?_, q2, rfl⟩, n, f⟩
  simp only [OwE, Ow]
  exact ⟨trivial, q G⟩
end
end Qv
end
section
set_option Elab.async false
set_option linter.all false
set_option maxRecDepth 100000
/-! Q2: terms, and what they compute over plain data. -/
namespace Qv
open PySem PySem.Spec PyProof.Rows L2

/-! ### terms -/
/-- operations whose operands are only looked at -/
inductive OpK where
  | add | sub | mul | fdiv | mod | pow | neg | nt
  | eq | ne | lt | le | gt | ge | isin | notin | isnone | notnone
  | item | back
  | len | int1 | abs | max2 | min2 | divmod | tuple1 | list1 | dict1 | sum | all | any | repr | reprl
  | isinst (ts : List String)
  | join | find | find3 | split | dget1 | dget2 | startswith
  deriving DecidableEq
/-- what a loop walks -/
inductive IK where
  | sq | rng | en | zp
  deriving DecidableEq
/-- targets: names, and rows of them -/
inductive Tg where
  | nm (i : Nat)
  | tp (ts : List Tg)
inductive T where
  | c (d : PyData)
  | nm (i : Nat)
  | mv (i : Nat)
  | tup (es : List T)
  | tupo (es : List T)
  | lst (es : List T)
  | op (k : OpK) (es : List T)
  | mth (k : OpK) (e : T) (es : List T)
  | prj (e : T) (j : Nat)
  | sl (es los his : List T)
  | and2 (a b : T)
  | or2 (a b : T)
  | ite (c a b : T)
  | chain (k l : OpK) (es fs : List T)
  | tt (e : T)
  | tn (e : T)
  | call (f : Nat) (es : List T)
  | lc (ws : List Nat) (tg : Tg) (ik : IK) (ies : List T) (cs : List T) (e : T)
  | callk (f : Nat) (es : List T) (pm : List Nat)
  | app (i : Nat) (e : T)
  | ext (i : Nat) (es : List T)
  | popl (i : Nat)
/-- targets of an assignment -/
inductive Ta where
  | nm (i : Nat)
  | tp (ts : List Ta)
  | st (i : Nat) (e : T)
inductive S where
  | asg (tg : Ta) (e : T)
  | par (is : List Nat) (es : List T)
  | ex (e : T)
  | ite (c : T) (a b : List S)
  | wh (c : T) (b : List S)
  | fr (tg : Tg) (ik : IK) (ies : List T) (b : List S)
  | ret (e : T)
  | pass | brk | cont | raise

/-! ### operations on own trees -/
def allSh : List O → Option (List PyData)
  | [] => some []
  | .sh d :: r => (allSh r).map (d :: ·)
  | _ :: _ => none
def O.list? : O → Option (List PyData)
  | .sh (.list ds) => some ds
  | .ol os => allSh os
  | _ => none
def O.tup? : O → Option (List PyData)
  | .sh (.tuple ds) => some ds
  | .ot os => allSh os
  | _ => none
def O.seq? (o : O) : Option (List PyData) :=
  match o.list? with
  | some ds => some ds
  | none => o.tup?
def allShK : List (Key × O) → Option (List (Key × PyData))
  | [] => some []
  | (k, .sh d) :: r => (allShK r).map ((k, d) :: ·)
  | _ :: _ => none
def keysOf : List (PyData × PyData) → Option (List (Key × PyData))
  | [] => some []
  | (.int i, d) :: r => (keysOf r).map ((.inl i, d) :: ·)
  | (.str x, d) :: r => (keysOf r).map ((.inr x, d) :: ·)
  | _ :: _ => none
def O.dict? : O → Option (List (Key × PyData))
  | .sh (.dict kvs) => keysOf kvs
  | .od kvs => allShK kvs
  | _ => none
/-- each child is data that nobody changes any more -/
def O.isFlat (o : O) : Bool :=
  match o with
  | .sh _ => true
  | .ol os => (allSh os).isSome
  | .ot os => (allSh os).isSome
  | .od kvs => (allShK kvs).isSome
def shI (i : Int) : O := .sh (.int i)
def shB (b : Bool) : O := .sh (.bool b)
def shS (x : Str) : O := .sh (.str x)
def olOf (ds : List PyData) : O := .ol (ds.map O.sh)
def gd {α : Type} (c : Bool) (x : α) : Option α := if c then some x else none

def i2 (f : Int → Int → Option O) : List O → Option O
  | [.sh (.int i), .sh (.int j)] => f i j
  | _ => none
def pAdd : List O → Option O
  | [.sh (.int i), .sh (.int j)] => some (shI (i + j))
  | [.sh (.str x), .sh (.str y)] => gd (decide (x.length + y.length ≤ sizeLine)) (shS (x ++ y))
  | [a, b] => match a.list?, b.list? with
    | some xs, some ys => gd (decide (xs.length + ys.length ≤ sizeLine)) (olOf (xs ++ ys))
    | _, _ => match a, b with
      | .sh (.tuple xs), .sh (.tuple ys) => gd (decide (xs.length + ys.length ≤ sizeLine)) (.sh (.tuple (xs ++ ys)))
      | _, _ => none
  | _ => none
def pMul : List O → Option O
  | [.sh (.int i), .sh (.int j)] => gd (decide ((-(2 ^ 64) < i ∧ i < 2 ^ 64) ∨ (-(2 ^ 64) < j ∧ j < 2 ^ 64))) (shI (i * j))
  | [a, .sh (.int j)] => match a.list? with
    | some xs => gd (decide (-(2 ^ 63) ≤ j ∧ j < 2 ^ 63 ∧ xs.length * j.toNat ≤ sizeLine)) (olOf (List.replicate j.toNat xs).flatten)
    | _ => none
  | _ => none
def truth : O → Option Bool
  | .sh .none => some false
  | .sh (.bool b) => some b
  | .sh (.int i) => some (i != 0)
  | .sh (.str x) => gd (decide (x.length ≤ sizeLine)) ((x.length : Int) != 0)
  | .sh (.list ds) => some (!ds.isEmpty)
  | .sh (.tuple ds) => some (!ds.isEmpty)
  | .sh (.dict kvs) => some (!kvs.isEmpty)
  | .ol os => some (!os.isEmpty)
  | .ot os => some (!os.isEmpty)
  | .od kvs => some (!kvs.isEmpty)
def pCmp (f : Int → Int → Bool) (g : List Nat → List Nat → Bool) : List O → Option O
  | [.sh (.int i), .sh (.int j)] => some (shB (f i j))
  | [.sh (.str x), .sh (.str y)] => some (shB (g x.cps.toList y.cps.toList))
  | _ => none
def scalD : PyData → PyData → Bool
  | .none, .none | .none, .bool _ | .none, .int _ | .none, .str _ | .bool _, .none | .int _, .none | .str _, .none => true
  | .int _, .int _ | .bool _, .bool _ | .str _, .str _ => true
  | .int _, .str _ | .str _, .int _ | .bool _, .str _ | .str _, .bool _ => true
  | _, _ => false
def pEq : List O → Option Bool
  | [a, b] => if scalD a.d b.d then some (PyData.eqv a.d b.d) else gd (SeqAt.shaped a.d && SeqAt.shaped b.d) (PyData.eqv a.d b.d)
  | _ => none
def isFlatD : PyData → Bool
  | .none | .bool _ | .int _ | .str _ => true
  | _ => false
def pIn : List O → Option Bool
  | [.sh (.str x), .sh (.str y)] => match x.cps.toList with
    | [c] => some (decide (c ∈ y.cps.toList))
    | _ => some (!(Builtin.Str.occurrences y x 0 y.length 1).isEmpty)
  | [a, b] => match b.seq? with
    | some ys => gd (isFlatD a.d && ys.all isFlatD && ys.all (scalD a.d)) (ys.any fun y => PyData.eqv y a.d)
    | none => none
  | _ => none
def pItem : List O → Option O
  | [.sh (.str z), .sh (.int i)] => if z.length ≤ sizeLine then (atI z.cps.toList i).map fun c => shS ⟨#[c]⟩ else none
  | [a, .sh (.int i)] => match a.seq? with
    | some ds => (atI ds i).map O.sh
    | none => none
  | _ => none
def cutD (xs : List PyData) (lo hi : Option Int) : List PyData := (xs.drop (HT.sIx xs.length 0 lo)).take (HT.sIx xs.length xs.length hi - HT.sIx xs.length 0 lo)
def pCut (a : O) (lo hi : Option Int) : Option O :=
  match a with
  | .sh (.str z) => gd (decide (z.length ≤ sizeLine)) (shS (cutS z lo hi))
  | .sh (.tuple ds) => some (.sh (.tuple (cutD ds lo hi)))
  | a => match a.list? with
    | some ds => some (olOf (cutD ds lo hi))
    | none => none
def pLen : O → Option O
  | .sh (.str x) => gd (decide (x.length ≤ sizeLine)) (shI x.length)
  | .od kvs => some (shI kvs.length)
  | .sh (.dict kvs) => some (shI kvs.length)
  | a => a.seq?.map fun ds => shI ds.length
def allBl : List PyData → Option (List Bool)
  | [] => some []
  | .bool b :: r => (allBl r).map (b :: ·)
  | _ :: _ => none
def allIn : List PyData → Option (List Int)
  | [] => some []
  | .int b :: r => (allIn r).map (b :: ·)
  | _ :: _ => none
def allSt : List PyData → Option (List Str)
  | [] => some []
  | .str b :: r => (allSt r).map (b :: ·)
  | _ :: _ => none
def isT (d : PyData) : String → Option Bool
  | "int" => some (match d with | .int _ => true | .bool _ => true | _ => false)
  | "bool" => some (match d with | .bool _ => true | _ => false)
  | "str" => some (match d with | .str _ => true | _ => false)
  | "list" => some (match d with | .list _ => true | _ => false)
  | "tuple" => some (match d with | .tuple _ => true | _ => false)
  | "dict" => some (match d with | .dict _ => true | _ => false)
  | _ => none
def isAny (d : PyData) : List String → Option Bool
  | [] => some false
  | t :: ts => match isT d t, isAny d ts with
    | some a, some b => some (a || b)
    | _, _ => none
def pRepr (o : O) : Option O := gd (o.d.showable && !o.d.hasDict && decide (o.d.shown.length ≤ sizeLine) && decide (o.d.depth ≤ 60)) (shS o.d.shown)
def pReprL (os : List O) : Option O := if os.length ≤ sizeLine then pRepr (.ol os) else none
/-- the pairs of a dict's making -/
def pairsOf : List PyData → Option (List (Key × PyData))
  | [] => some []
  | .tuple [.int i, d] :: r => (pairsOf r).map ((.inl i, d) :: ·)
  | .tuple [.str x, d] :: r => (pairsOf r).map ((.inr x, d) :: ·)
  | _ :: _ => none
def putD (kvs : List (Key × PyData)) (k : Key) (d : PyData) : List (Key × PyData) :=
  if (kvs.any fun kv => decide (kv.1 = k)) = true then kvs.map (fun kv => if kv.1 = k then (kv.1, d) else kv) else kvs ++ [(k, d)]
def valD (kvs : List (Key × PyData)) (k : Key) : Option PyData := (kvs.find? fun kv => decide (kv.1 = k)).map (·.2)
def keyOf : PyData → Option Key
  | .int i => some (.inl i)
  | .str x => some (.inr x)
  | _ => none
def pGet (a k : O) (x : PyData) : Option O :=
  match a.dict?, keyOf k.d with
  | some kvs, some key => some (.sh ((valD kvs key).getD x))
  | _, _ => none
def u1 (f : O → Option O) : List O → Option O
  | [a] => f a
  | _ => none
def pNeg : O → Option O
  | .sh (.int i) => some (shI (-i))
  | _ => none
def isNon : O → Bool
  | .sh .none => true
  | _ => false
def pInt : O → Option O
  | .sh (.int i) => some (shI i)
  | .sh (.bool b) => some (shI (if b then 1 else 0))
  | _ => none
def pAbs : O → Option O
  | .sh (.int i) => some (shI (if i < 0 then -i else i))
  | _ => none
def pTuple (a : O) : Option O :=
  match a.list? with
  | some ds => some (.sh (.tuple ds))
  | none => match a with
    | .sh (.tuple ds) => some (.sh (.tuple ds))
    | _ => none
def pDict (a : O) : Option O :=
  match a.list? with
  | some ds => (pairsOf ds).map fun ps => .od ((ps.foldl (fun m p => putD m p.1 p.2) []).map fun p => (p.1, .sh p.2))
  | none => none
def pSum (a : O) : Option O :=
  match a.list? with
  | some ds => (allIn ds).map fun ns => shI ns.sum
  | none => none
def pAll (a : O) : Option O :=
  match a.list? with
  | some ds => (allBl ds).map fun bs => shB (bs.all id)
  | none => none
def pAny (a : O) : Option O :=
  match a.list? with
  | some ds => (allBl ds).map fun bs => shB (bs.any id)
  | none => none
def pJoin : List O → Option O
  | [.sh (.str x), a] => match a.seq? with
    | some ds => match allSt ds with
      | some ys => gd (decide ((ys.map Str.length).sum + ys.length * x.length ≤ 16777216)) (shS (Txt.join x ys))
      | none => none
    | none => none
  | _ => none
def s2 (f : Str → Str → Option O) : List O → Option O
  | [.sh (.str x), .sh (.str y)] => f x y
  | _ => none
def pFind3 : List O → Option O
  | [.sh (.str x), .sh (.str y), .sh (.int i)] => some (shI (Txt.find3 x y i))
  | _ => none
def pGet1 : List O → Option O
  | [a, k] => pGet a k .none
  | _ => none
def pGet2 : List O → Option O
  | [a, k, .sh d] => pGet a k d
  | _ => none
def prim : OpK → List O → Option O
  | .add => pAdd
  | .sub => i2 fun i j => some (shI (i - j))
  | .mul => pMul
  | .fdiv => i2 fun i j => gd (decide (j ≠ 0 ∧ j.natAbs < 1073741824)) (shI (i.fdiv j))
  | .mod => i2 fun i j => gd (decide (j ≠ 0)) (shI (i.fmod j))
  | .pow => i2 fun i j => gd (decide (0 ≤ j ∧ j ≤ 1000000 ∧ i.natAbs < 2 ^ 64)) (shI (i ^ j.toNat))
  | .neg => u1 pNeg
  | .nt => u1 fun a => (truth a).map fun b => shB !b
  | .eq => fun os => (pEq os).map shB
  | .ne => fun os => (pEq os).map fun b => shB !b
  | .lt => pCmp (fun i j => decide (i < j)) (fun x y => decide (x < y))
  | .le => pCmp (fun i j => decide (i ≤ j)) (fun x y => !decide (y < x))
  | .gt => pCmp (fun i j => decide (j < i)) (fun x y => decide (y < x))
  | .ge => pCmp (fun i j => decide (j ≤ i)) (fun x y => !decide (x < y))
  | .isin => fun os => (pIn os).map shB
  | .notin => fun os => (pIn os).map fun b => shB !b
  | .isnone => u1 fun a => some (shB (isNon a))
  | .notnone => u1 fun a => some (shB !(isNon a))
  | .item => pItem
  | .back => u1 fun a => a.list?.map fun ds => olOf ds.reverse
  | .len => u1 pLen
  | .int1 => u1 pInt
  | .abs => u1 pAbs
  | .max2 => i2 fun i j => some (shI (if j > i then j else i))
  | .min2 => i2 fun i j => some (shI (if j < i then j else i))
  | .divmod => i2 fun i j => gd (decide (0 < j ∧ j < 1073741824)) (.sh (.tuple [.int (i / j), .int (i % j)]))
  | .tuple1 => u1 pTuple
  | .list1 => u1 fun a => a.seq?.map olOf
  | .dict1 => u1 pDict
  | .sum => u1 pSum
  | .all => u1 pAll
  | .any => u1 pAny
  | .repr => u1 pRepr
  | .reprl => pReprL
  | .isinst ts => u1 fun a => (isAny a.d ts).map shB
  | .join => pJoin
  | .find => s2 fun x y => some (shI (Txt.find x y))
  | .find3 => pFind3
  | .split => s2 fun x y => gd (!(y.length == 0) && decide (x.length + 2 ≤ sizeLine)) (olOf ((Txt.split x y).map .str))
  | .startswith => s2 fun x y => some (shB (Txt.startswith x y))
  | .dget1 => pGet1
  | .dget2 => pGet2
def cmpOut : O → Option Bool
  | .sh (.bool b) => some b
  | _ => none

/-- the receiver is of the method's type -/
def mtyp : OpK → O → Bool
  | .join, .sh (.str _) => true
  | .find, .sh (.str _) => true
  | .find3, .sh (.str _) => true
  | .split, .sh (.str _) => true
  | .startswith, .sh (.str _) => true
  | .dget1, .od _ => true
  | .dget2, .od _ => true
  | .dget1, .sh (.dict _) => true
  | .dget2, .sh (.dict _) => true
  | _, _ => false
def isOl : O → Bool
  | .ol _ => true
  | _ => false

/-! ### slots -/
abbrev Env := List (Option O)
inductive Opd where
  | sl (i : Nat)
  | tv (o : O)
def rdO (ρ : Env) : Opd → Option O
  | .tv o => some o
  | .sl i => match ρ[i]? with
    | some (some o) => some o
    | _ => none
def rdOs (ρ : Env) : List Opd → Option (List O)
  | [] => some []
  | x :: xs => match rdO ρ x, rdOs ρ xs with
    | some o, some os => if o.isFlat then some (o :: os) else none
    | _, _ => none
/-- a part of a slice: nothing, or a number -/
def partOf (ρ : Env) : List Opd → Option (Option Int)
  | [] => some none
  | [x] => match rdO ρ x with
    | some (.sh (.int i)) => some (some i)
    | _ => none
  | _ => none
/-- a name's value: from then on nobody changes it -/
def rdV (i : Nat) (ρ : Env) : Option (O × Env) :=
  match ρ[i]? with
  | some (some (.sh d)) => some (.sh d, ρ)
  | some (some o) => some (.sh o.d, ρ.set i (some (.sh o.d)))
  | _ => none
/-- a name's value, for the last time -/
def mvV (i : Nat) (ρ : Env) : Option (O × Env) :=
  match ρ[i]? with
  | some (some o) => some (o, ρ.set i none)
  | _ => none
def lend : List Opd → Env → Option (List O × Env)
  | [], ρ => some ([], ρ)
  | x :: xs, ρ => match lend xs ρ with
    | none => none
    | some (os, ρ1) => match x with
      | .tv o => some (o :: os, ρ1)
      | .sl i => match ρ1[i]? with
        | some (some (.sh d)) => some (.sh d :: os, ρ1)
        | some (some o) => some (o :: os, ρ1.set i none)
        | _ => none
def back : List Opd → List O → Env → Env
  | .sl i :: xs, o :: os, ρ => back xs os (match ρ[i]? with | some none => ρ.set i (some o) | _ => ρ)
  | .tv _ :: xs, _ :: os, ρ => back xs os ρ
  | _, _, ρ => ρ
def forget (ρ : Env) : List Nat → Env
  | [] => ρ
  | v :: vs => (forget ρ vs).set v none
/-! a target gets a value -/
mutual
def bindTg : Tg → O → Env → Option Env
  | .nm i, o, ρ => if i < ρ.length then some (ρ.set i (some o)) else none
  | .tp ts, o, ρ => match o with
    | .sh (.tuple ds) => bindTgs ts (ds.map O.sh) ρ
    | .ot os => bindTgs ts os ρ
    | _ => none
def bindTgs : List Tg → List O → Env → Option Env
  | [], [], ρ => some ρ
  | t :: ts, o :: os, ρ => match bindTg t o ρ with
    | some ρ1 => bindTgs ts os ρ1
    | none => none
  | _, _, _ => none
end
/-- what a walk yields -/
def strItems (x : Str) : List O := x.cps.toList.map fun c => shS ⟨#[c]⟩
def walk : IK → List O → Option (List O)
  | .sq, [o] => match o.seq? with
    | some ds => some (ds.map O.sh)
    | none => match o with
      | .sh (.str x) => some (strItems x)
      | _ => none
  | .rng, [.sh (.int j)] => gd (decide (-(2 ^ 62) ≤ j ∧ j < 2 ^ 62)) ((List.range j.toNat).map fun (n : Nat) => shI (0 + (n : Int)))
  | .rng, [.sh (.int i), .sh (.int j)] => gd (decide (-(2 ^ 62) ≤ i ∧ i < 2 ^ 62 ∧ -(2 ^ 62) ≤ j ∧ j < 2 ^ 62)) ((List.range (j - i).toNat).map fun (n : Nat) => shI (i + (n : Int)))
  | .en, [o] => match o.list? with
    | some ds => some (ds.zipIdx.map fun p => .sh (.tuple [.int p.2, p.1]))
    | none => none
  | .zp, [a, b] => match a.list?, b.list? with
    | some xs, some ys => some ((xs.zip ys).map fun p => .sh (.tuple [p.1, p.2]))
    | _, _ => none
  | _, _ => none
def permL {α : Type} (pm : List Nat) (xs : List α) : List α := pm.filterMap fun j => xs[j]?

/-! ### what terms compute; C: what calls do -/
abbrev Cal := Nat → List O → Option (O × List O)
def isNm : T → Option Nat
  | .nm i => some i
  | _ => none
/-- a comprehension's turns -/
def lcGo (f : O → Env → Option (Option O × Env)) : List O → List O → Env → Option (List O × Env)
  | [], acc, ρ => some (acc, ρ)
  | x :: xs, acc, ρ => match f x ρ with
    | some (some o, ρ1) => if acc.length < sizeLine then lcGo f xs (acc ++ [o]) ρ1 else none
    | some (none, ρ1) => lcGo f xs acc ρ1
    | none => none
mutual
def ev (C : Cal) : T → Env → Option (O × Env)
  | .c d, ρ => some (.sh d, ρ)
  | .nm i, ρ => rdV i ρ
  | .mv i, ρ => mvV i ρ
  | .tup es, ρ => match evs C es ρ with
    | some (os, ρ1) => if os.length ≤ sizeLine then some (.sh (.tuple (O.dL os)), ρ1) else none
    | none => none
  | .tupo es, ρ => match evs C es ρ with
    | some (os, ρ1) => if os.length ≤ sizeLine then some (.ot os, ρ1) else none
    | none => none
  | .lst es, ρ => match evs C es ρ with
    | some (os, ρ1) => if os.length ≤ sizeLine then some (olOf (O.dL os), ρ1) else none
    | none => none
  | .op k es, ρ => match evOs C es ρ with
    | some (xs, ρ1) => match rdOs ρ1 xs with
      | some os => match prim k os with
        | some o => some (o, ρ1)
        | none => none
      | none => none
    | none => none
  | .mth k e es, ρ => match isNm e with
    | some i => match rdOs ρ [.sl i] with
      | some [o0] => if mtyp k o0 then match evOs C es ρ with
          | some (xs, ρ2) => match rdOs ρ2 (.sl i :: xs) with
            | some os => match prim k os with
              | some o => some (o, ρ2)
              | none => none
            | none => none
          | none => none
        else none
      | _ => none
    | none => match ev C e ρ with
      | some (o0, ρ1) => if o0.isFlat && mtyp k o0 then match evOs C es ρ1 with
          | some (xs, ρ2) => match rdOs ρ2 (.tv o0 :: xs) with
            | some os => match prim k os with
              | some o => some (o, ρ2)
              | none => none
            | none => none
          | none => none
        else none
      | none => none
  | .prj e j, ρ => match ev C e ρ with
    | some (.ot os, ρ1) => match os[j]? with
      | some o => some (o, ρ1)
      | none => none
    | some (.sh (.tuple ds), ρ1) => match ds[j]? with
      | some d => some (.sh d, ρ1)
      | none => none
    | _ => none
  | .sl es los his, ρ => match evOs C es ρ with
    | some ([x], ρ1) => match evOs C los ρ1 with
      | some (ys, ρ2) => match partOf ρ2 ys with
        | some lo => match evOs C his ρ2 with
          | some (zs, ρ3) => match partOf ρ3 zs with
            | some hi => match rdOs ρ3 [x] with
              | some [o] => match pCut o lo hi with
                | some r => some (r, ρ3)
                | none => none
              | _ => none
            | none => none
          | none => none
        | none => none
      | none => none
    | _ => none
  | .and2 a b, ρ => match ev C a ρ with
    | some (.sh (.bool true), ρ1) => ev C b ρ1
    | some (.sh (.bool false), ρ1) => some (.sh (.bool false), ρ1)
    | _ => none
  | .or2 a b, ρ => match ev C a ρ with
    | some (.sh (.bool true), ρ1) => some (.sh (.bool true), ρ1)
    | some (.sh (.bool false), ρ1) => ev C b ρ1
    | _ => none
  | .ite c a b, ρ => match ev C c ρ with
    | some (.sh (.bool true), ρ1) => ev C a ρ1
    | some (.sh (.bool false), ρ1) => ev C b ρ1
    | _ => none
  | .chain k l es fs, ρ => match evOs C es ρ with
    | some (xs, ρ1) => match rdOs ρ1 xs with
      | some os => match prim k os with
        | some (.sh (.bool true)) => match evOs C fs ρ1 with
          | some (ys, ρ2) => match rdOs ρ2 (xs.drop 1 ++ ys) with
            | some os2 => match prim l os2 with
              | some o => some (o, ρ2)
              | none => none
            | none => none
          | none => none
        | some (.sh (.bool false)) => some (.sh (.bool false), ρ1)
        | _ => none
      | none => none
    | none => none
  | .tt e, ρ => match isNm e with
    | some i => match rdOs ρ [.sl i] with
      | some [o] => match truth o with
        | some b => some (shB b, ρ)
        | none => none
      | _ => none
    | none => match ev C e ρ with
      | some (o, ρ1) => match rdOs ρ1 [.tv o] with
        | some [o] => match truth o with
          | some b => some (shB b, ρ1)
          | none => none
        | _ => none
      | none => none
  | .tn e, ρ => match ev C e ρ with
    | some (.sh (.bool b), ρ1) => some (shB (!b), ρ1)
    | _ => none
  | .call f es, ρ => match evOs C es ρ with
    | some (xs, ρ1) => match lend xs ρ1 with
      | some (os, ρ2) => match C f os with
        | some (o, os2) => some (o, back xs os2 ρ2)
        | none => none
      | none => none
    | none => none
  | .lc ws tg ik ies cs e, ρ => match evs C ies ρ with
    | some (ios, ρ1) => match walk ik (ios.map fun o => .sh o.d) with
      | some xs => match lcGo (fun x ρ2 => match bindTg tg x ρ2 with
          | some ρ3 => match evBs C cs ρ3 with
            | some (true, ρ4) => match ev C e ρ4 with
              | some (o, ρ5) => some (some (.sh o.d), forget ρ5 ws)
              | none => none
            | some (false, ρ4) => some (none, forget ρ4 ws)
            | none => none
          | none => none) xs [] (forget ρ1 ws) with
        | some (os, ρ2) => some (.ol os, forget ρ2 ws)
        | none => none
      | none => none
    | none => none
  | .callk f es pm, ρ => match evOs C es ρ with
    | some (ys, ρ1) => match lend (permL pm ys) ρ1 with
      | some (os, ρ2) => match C f os with
        | some (o, os2) => some (o, back (permL pm ys) os2 ρ2)
        | none => none
      | none => none
    | none => none
  | .app i e, ρ => match rdO ρ (.sl i) with
    | some (.ol _) => match ev C e ρ with
      | some (o, ρ1) => match rdO ρ1 (.sl i) with
        | some (.ol os) => if os.length < sizeLine then some (.sh .none, ρ1.set i (some (.ol (os ++ [.sh o.d])))) else none
        | _ => none
      | none => none
    | _ => none
  | .ext i es, ρ => match rdO ρ (.sl i) with
    | some (.ol _) => match evOs C es ρ with
      | some ([x], ρ1) => match rdO ρ1 (.sl i), rdOs ρ1 [x] with
        | some (.ol os), some [o] => match o.list? with
          | some ds => if os.length + ds.length ≤ sizeLine then some (.sh .none, ρ1.set i (some (.ol (os ++ ds.map O.sh)))) else none
          | none => none
        | _, _ => none
      | _ => none
    | _ => none
  | .popl i, ρ => match rdO ρ (.sl i) with
    | some (.ol os) => match os[os.length - 1]? with
      | some o => some (o, ρ.set i (some (.ol os.dropLast)))
      | none => none
    | _ => none
def evs (C : Cal) : List T → Env → Option (List O × Env)
  | [], ρ => some ([], ρ)
  | e :: es, ρ => match ev C e ρ with
    | some (o, ρ1) => match evs C es ρ1 with
      | some (os, ρ2) => some (o :: os, ρ2)
      | none => none
    | none => none
def evOs (C : Cal) : List T → Env → Option (List Opd × Env)
  | [], ρ => some ([], ρ)
  | e :: es, ρ => match isNm e with
    | some i => match rdO ρ (.sl i) with
      | some _ => match evOs C es ρ with
        | some (xs, ρ2) => some (.sl i :: xs, ρ2)
        | none => none
      | none => none
    | none => match ev C e ρ with
      | some (o, ρ1) => match evOs C es ρ1 with
        | some (xs, ρ2) => some (.tv o :: xs, ρ2)
        | none => none
      | none => none
/-- tests, one behind another -/
def evBs (C : Cal) : List T → Env → Option (Bool × Env)
  | [], ρ => some (true, ρ)
  | e :: es, ρ => match ev C e ρ with
    | some (.sh (.bool true), ρ1) => evBs C es ρ1
    | some (.sh (.bool false), ρ1) => some (false, ρ1)
    | _ => none
end

/-! ### statements -/
inductive Out where
  | nx (ρ : Env)
  | rt (o : O) (ρ : Env)
  | bk (ρ : Env)
  | ct (ρ : Env)
mutual
def bindTa (C : Cal) : Ta → O → Env → Option Env
  | .nm i, o, ρ => if i < ρ.length then some (ρ.set i (some o)) else none
  | .tp ts, o, ρ => match o with
    | .sh (.tuple ds) => bindTas C ts (ds.map O.sh) ρ
    | .ot os => bindTas C ts os ρ
    | _ => none
  | .st i e, o, ρ => match rdO ρ (.sl i) with
    | some (.ol _) => match evOs C [e] ρ with
      | some (xs, ρ1) => match rdOs ρ1 xs, rdO ρ1 (.sl i) with
        | some [.sh (.int k)], some (.ol os) => match ixN os.length k with
          | some j => some (ρ1.set i (some (.ol (os.set j (.sh o.d)))))
          | none => none
        | _, _ => none
      | none => none
    | _ => none
def bindTas (C : Cal) : List Ta → List O → Env → Option Env
  | [], [], ρ => some ρ
  | t :: ts, o :: os, ρ => match bindTa C t o ρ with
    | some ρ1 => bindTas C ts os ρ1
    | none => none
  | _, _, _ => none
end
/-- a loop, turn by turn: left what is told, right the next turn -/
def iterN (f : Env → Option (Out ⊕ Env)) : Nat → Env → Option Out
  | 0, _ => none
  | n + 1, ρ => match f ρ with
    | none => none
    | some (.inl o) => some o
    | some (.inr ρ1) => iterN f n ρ1
theorem iterN_mono {f : Env → Option (Out ⊕ Env)} : ∀ {n m : Nat} {ρ : Env} {o : Out}, iterN f n ρ = some o → n ≤ m → iterN f m ρ = some o
  | 0, _, _, _, h, _ => by cases h
  | n + 1, 0, _, _, _, h => by omega
  | n + 1, m + 1, ρ, o, h, l => by
    unfold iterN at h ⊢
    split
    · simp_all
    · simp_all
    · rename_i e
      rw [e] at h
      exact iterN_mono h (by omega)
open Classical in
noncomputable def loopO (f : Env → Option (Out ⊕ Env)) (ρ : Env) : Option Out :=
  if h : ∃ n o, iterN f n ρ = some o then some (Classical.choose (Classical.choose_spec h)) else none
theorem loopO_of {f : Env → Option (Out ⊕ Env)} {n : Nat} {ρ : Env} {o : Out} (h : iterN f n ρ = some o) : loopO f ρ = some o := by
  have hx : ∃ n o, iterN f n ρ = some o := ⟨n, o, h⟩
  unfold loopO
  rw [dif_pos hx]
  have e := Classical.choose_spec (Classical.choose_spec hx)
  have e1 := iterN_mono e (Nat.le_max_left _ n)
  have e2 := iterN_mono h (Nat.le_max_right (Classical.choose hx) n)
  rw [e1] at e2
  exact e2
theorem loopO_some {f : Env → Option (Out ⊕ Env)} {ρ : Env} {o : Out} (h : loopO f ρ = some o) : ∃ n, iterN f n ρ = some o := by
  unfold loopO at h
  split at h
  · rename_i hx
    refine ⟨Classical.choose hx, ?_⟩
    have e := Classical.choose_spec (Classical.choose_spec hx)
    rw [Option.some.inj h] at e
    exact e
  · cases h
theorem loopO_eq (f : Env → Option (Out ⊕ Env)) (ρ : Env) : loopO f ρ = match f ρ with
    | none => none
    | some (.inl o) => some o
    | some (.inr ρ1) => loopO f ρ1 := by
  cases e : f ρ with
  | none =>
    cases q : loopO f ρ with
    | none => rfl
    | some o =>
      obtain ⟨n, h⟩ := loopO_some q
      cases n with
      | zero => cases h
      | succ n => simp [iterN, e] at h
  | some x =>
    cases x with
    | inl o => exact loopO_of (n := 1) (by simp [iterN, e])
    | inr ρ1 =>
      show loopO f ρ = loopO f ρ1
      cases q : loopO f ρ1 with
      | some o =>
        obtain ⟨n, h⟩ := loopO_some q
        exact loopO_of (n := n + 1) (by simp [iterN, e, h])
      | none =>
        cases q2 : loopO f ρ with
        | none => rfl
        | some o =>
          obtain ⟨n, h⟩ := loopO_some q2
          cases n with
          | zero => cases h
          | succ n =>
            simp [iterN, e] at h
            rw [loopO_of h] at q
            cases q
/-- a for's turns -/
def frGo (f : O → Env → Option Out) : List O → Env → Option Out
  | [], ρ => some (.nx ρ)
  | x :: xs, ρ => match f x ρ with
    | some (.nx ρ1) => frGo f xs ρ1
    | some (.ct ρ1) => frGo f xs ρ1
    | some (.bk ρ1) => some (.nx ρ1)
    | some (.rt o ρ1) => some (.rt o ρ1)
    | none => none
def putAll : List Nat → List O → Env → Env
  | i :: is, o :: os, ρ => putAll is os (ρ.set i (some o))
  | _, _, ρ => ρ
mutual
noncomputable def evS (C : Cal) : S → Env → Option Out
  | .asg tg e, ρ => match ev C e ρ with
    | some (o, ρ1) => match bindTa C tg o ρ1 with
      | some ρ2 => some (.nx ρ2)
      | none => none
    | none => none
  | .par is es, ρ => match evs C es ρ with
    | some (os, ρ1) => if is.all (fun i => decide (i < ρ1.length)) then some (.nx (putAll is os ρ1)) else none
    | none => none
  | .ex e, ρ => match ev C e ρ with
    | some (_, ρ1) => some (.nx ρ1)
    | none => none
  | .ite c a b, ρ => match ev C c ρ with
    | some (.sh (.bool true), ρ1) => evSs C a ρ1
    | some (.sh (.bool false), ρ1) => evSs C b ρ1
    | _ => none
  | .wh c b, ρ => loopO (fun ρ1 => match ev C c ρ1 with
      | some (.sh (.bool false), ρ2) => some (.inl (.nx ρ2))
      | some (.sh (.bool true), ρ2) => match evSs C b ρ2 with
        | some (.nx ρ3) => some (.inr ρ3)
        | some (.ct ρ3) => some (.inr ρ3)
        | some (.bk ρ3) => some (.inl (.nx ρ3))
        | some (.rt o ρ3) => some (.inl (.rt o ρ3))
        | none => none
      | _ => none) ρ
  | .fr tg ik ies b, ρ => match evs C ies ρ with
    | some (ios, ρ1) => match walk ik (ios.map fun o => .sh o.d) with
      | some xs => frGo (fun x ρ2 => match bindTg tg x ρ2 with
          | some ρ3 => evSs C b ρ3
          | none => none) xs ρ1
      | none => none
    | none => none
  | .ret e, ρ => match ev C e ρ with
    | some (o, ρ1) => some (.rt o ρ1)
    | none => none
  | .pass, ρ => some (.nx ρ)
  | .brk, ρ => some (.bk ρ)
  | .cont, ρ => some (.ct ρ)
  | .raise, _ => none
noncomputable def evSs (C : Cal) : List S → Env → Option Out
  | [], ρ => some (.nx ρ)
  | s :: ss, ρ => match evS C s ρ with
    | some (.nx ρ1) => evSs C ss ρ1
    | r => r
end

/-! ### defs -/
structure Fd where
  np : Nat
  ns : Nat
  /-- the parameters whose slots get other values within -/
  asgd : List Nat
  body : List S
def heldAll : Nat → List Nat → List O → Env → Option (List O)
  | _, _, [], _ => some []
  | i, as, o :: os, ρ => match heldAll (i + 1) as os ρ with
    | none => none
    | some r => if as.contains i then some (.sh o.d :: r) else match ρ[i]? with
      | some (some o2) => some (o2 :: r)
      | _ => none
def startAll : Nat → List Nat → List O → Env
  | _, _, [] => []
  | i, as, o :: os => (if as.contains i then some (.sh o.d) else some o) :: startAll (i + 1) as os
/-- calls, k deep -/
noncomputable def runF (P : List Fd) : Nat → Cal
  | 0 => fun _ _ => none
  | k + 1 => fun f os => match P[f]? with
    | none => none
    | some fd => if os.length = fd.np then
        match evSs (runF P k) fd.body (startAll 0 fd.asgd os ++ List.replicate (fd.ns - fd.np) none) with
        | some (.rt o ρ) => (heldAll 0 fd.asgd os ρ).map fun os2 => (o, os2)
        | some (.nx ρ) => (heldAll 0 fd.asgd os ρ).map fun os2 => (.sh .none, os2)
        | _ => none
      else none
end Qv
end
section
set_option Elab.async false
set_option linter.all false
set_option maxRecDepth 100000
/-! Q3: slots and stack; readings of terms. -/
namespace Qv
open PySem PySem.Spec PyProof.Rows L2

def live : Env → L2.St → List En
  | some o :: ρ, some v :: σ => (some o, v) :: live ρ σ
  | _ :: ρ, _ :: σ => live ρ σ
  | _, _ => []
def Cov : Env → L2.St → Prop
  | [], [] => True
  | some _ :: ρ, some _ :: σ => Cov ρ σ
  | some _ :: _, none :: _ => False
  | none :: ρ, _ :: σ => Cov ρ σ
  | _, _ => False

theorem Cov.len : ∀ {ρ : Env} {σ : L2.St}, Cov ρ σ → ρ.length = σ.length
  | [], [], _ => rfl
  | some _ :: ρ, some _ :: σ, h => by
    rw [List.length_cons, List.length_cons, Cov.len (ρ := ρ) (σ := σ) h]
  | some _ :: _, none :: _, h => h.elim
  | none :: ρ, _ :: σ, h => by
    rw [List.length_cons, List.length_cons, Cov.len (ρ := ρ) (σ := σ) h]
  | [], _ :: _, h => h.elim
  | some _ :: _, [], h => h.elim
  | none :: _, [], h => h.elim
theorem Cov.take : ∀ {ρ : Env} {σ : L2.St} {i : Nat} {o : O}, Cov ρ σ → ρ[i]? = some (some o) →
    ∃ v, σ[i]? = some (some v) ∧ (live ρ σ).Perm ((some o, v) :: live (ρ.set i none) σ) ∧ Cov (ρ.set i none) σ
  | [], [], _, _, _, h => by simp at h
  | some o' :: ρ, some v :: σ, 0, o, c, h => by
    simp at h
    subst h
    exact ⟨v, rfl, .refl _, c⟩
  | some o' :: ρ, some v :: σ, i + 1, o, c, h => by
    obtain ⟨w, e, p, q⟩ := Cov.take (ρ := ρ) (σ := σ) (i := i) (o := o) c (by simpa using h)
    exact ⟨w, by simpa using e, (p.cons _).trans (.swap ..), q⟩
  | some _ :: _, none :: _, _, _, c, _ => c.elim
  | none :: ρ, x :: σ, 0, o, c, h => by simp at h
  | none :: ρ, x :: σ, i + 1, o, c, h => by
    obtain ⟨w, e, p, q⟩ := Cov.take (ρ := ρ) (σ := σ) (i := i) (o := o) c (by simpa using h)
    refine ⟨w, by simpa using e, ?_, ?_⟩
    · cases x <;> exact p
    · exact q
  | [], _ :: _, _, _, h, _ => h.elim
  | some _ :: _, [], _, _, h, _ => h.elim
  | none :: _, [], _, _, h, _ => h.elim
theorem Cov.give : ∀ {ρ : Env} {σ : L2.St} {i : Nat} {o : O} {v : V}, Cov ρ σ → ρ[i]? = some none → σ[i]? = some (some v) →
    (live (ρ.set i (some o)) σ).Perm ((some o, v) :: live ρ σ) ∧ Cov (ρ.set i (some o)) σ
  | [], [], _, _, _, _, h, _ => by simp at h
  | some o' :: ρ, some w :: σ, 0, o, v, c, h, _ => by simp at h
  | some o' :: ρ, some w :: σ, i + 1, o, v, c, h, g => by
    obtain ⟨p, q⟩ := Cov.give (ρ := ρ) (σ := σ) (i := i) (o := o) (v := v) c (by simpa using h) (by simpa using g)
    exact ⟨(p.cons _).trans (.swap ..), q⟩
  | some _ :: _, none :: _, _, _, _, c, _, _ => c.elim
  | none :: ρ, x :: σ, 0, o, v, c, h, g => by
    simp at g
    subst g
    exact ⟨.refl _, c⟩
  | none :: ρ, x :: σ, i + 1, o, v, c, h, g => by
    obtain ⟨p, q⟩ := Cov.give (ρ := ρ) (σ := σ) (i := i) (o := o) (v := v) c (by simpa using h) (by simpa using g)
    refine ⟨?_, q⟩
    cases x <;> exact p
  | [], _ :: _, _, _, _, h, _, _ => h.elim
  | some _ :: _, [], _, _, _, h, _, _ => h.elim
  | none :: _, [], _, _, _, h, _, _ => h.elim
theorem Cov.other : ∀ {ρ : Env} {σ : L2.St} {i : Nat} {x : Option V}, Cov ρ σ → ρ[i]? = some none → live ρ (σ.set i x) = live ρ σ ∧ Cov ρ (σ.set i x)
  | [], [], _, _, _, h => by simp at h
  | some o' :: ρ, some w :: σ, 0, _, c, h => by simp at h
  | some o' :: ρ, some w :: σ, i + 1, x, c, h => by
    obtain ⟨p, q⟩ := Cov.other (ρ := ρ) (σ := σ) (i := i) (x := x) c (by simpa using h)
    refine ⟨?_, q⟩
    show (some o', w) :: live ρ (σ.set i x) = _
    rw [p]
    rfl
  | some _ :: _, none :: _, _, _, c, _ => c.elim
  | none :: ρ, y :: σ, 0, x, c, h => by
    refine ⟨?_, c⟩
    cases x <;> cases y <;> rfl
  | none :: ρ, y :: σ, i + 1, x, c, h => by
    obtain ⟨p, q⟩ := Cov.other (ρ := ρ) (σ := σ) (i := i) (x := x) c (by simpa using h)
    refine ⟨?_, q⟩
    show live (none :: ρ) (y :: σ.set i x) = _
    cases y <;> exact p
  | [], _ :: _, _, _, h, _ => h.elim
  | some _ :: _, [], _, _, h, _ => h.elim
  | none :: _, [], _, _, h, _ => h.elim

/-- the stack M and the slots, held in H -/
def Ws (K : Frag) (H : Hp) (M : List En) (ρ : Env) (σ : L2.St) : Prop := Cov ρ σ ∧ Wd K H (M ++ live ρ σ)
section
variable {K : Frag} {H : Hp} {M M' : List En} {ρ : Env} {σ : L2.St} {i : Nat} {o : O} {v : V}
theorem set_set {ρ : Env} {i : Nat} {x y : Option O} : (ρ.set i x).set i y = ρ.set i y := List.set_set ..
theorem set_same {ρ : Env} {i : Nat} {x : Option O} (h : ρ[i]? = some x) : ρ.set i x = ρ := by
  apply List.ext_getElem?
  intro j
  rw [List.getElem?_set]
  split
  · rename_i e
    subst e
    split
    · exact h.symm
    · rename_i hl
      rw [List.getElem?_eq_none (by omega)] at h
      cases h
  · rfl
theorem get_set {ρ : Env} {i : Nat} {x y : Option O} (h : ρ[i]? = some x) : (ρ.set i y)[i]? = some y := by
  have : i < ρ.length := by
    rcases Nat.lt_or_ge i ρ.length with l | l
    · exact l
    · rw [List.getElem?_eq_none l] at h
      cases h
  rw [List.getElem?_set_self this]
theorem Ws.take (h : Ws K H M ρ σ) (e : ρ[i]? = some (some o)) : ∃ v, σ[i]? = some (some v) ∧ Ws K H ((some o, v) :: M) (ρ.set i none) σ := by
  obtain ⟨c, w⟩ := h
  obtain ⟨v, e2, p, c2⟩ := c.take e
  exact ⟨v, e2, c2, w.perm ((p.append_left M).trans List.perm_middle)⟩
theorem Ws.give (h : Ws K H ((some o, v) :: M) ρ σ) (e : ρ[i]? = some none) (e2 : σ[i]? = some (some v)) : Ws K H M (ρ.set i (some o)) σ := by
  obtain ⟨c, w⟩ := h
  obtain ⟨p, c2⟩ := c.give (o := o) e e2
  exact ⟨c2, w.perm (List.perm_middle.symm.trans (p.symm.append_left M))⟩
theorem Ws.mono (h : Ws K H M ρ σ) (p : M.Perm M') : Ws K H M' ρ σ := ⟨h.1, h.2.perm (p.append_right _)⟩
theorem Ws.drop {e : En} (h : Ws K H (e :: M) ρ σ) : Ws K H M ρ σ := ⟨h.1, Wd.drop (e := e) h.2⟩
theorem Ws.dropL (T : List En) (h : Ws K H (T ++ M) ρ σ) : Ws K H M ρ σ := ⟨h.1, Wd.dropL T (by rw [← List.append_assoc]; exact h.2)⟩
/-- the slot forgotten -/
theorem Ws.forget1 (h : Ws K H M ρ σ) (i : Nat) : Ws K H M (ρ.set i none) σ := by
  cases e : ρ[i]? with
  | none =>
    rw [List.set_eq_of_length_le (List.getElem?_eq_none_iff.mp e)]
    exact h
  | some x =>
    cases x with
    | none =>
      rw [set_same e]
      exact h
    | some o =>
      obtain ⟨v, _, q⟩ := h.take e
      exact q.drop
theorem Ws.forgetL (h : Ws K H M ρ σ) : ∀ vs : List Nat, Ws K H M (forget ρ vs) σ
  | [] => h
  | v :: vs => (Ws.forgetL h vs).forget1 v
theorem Ws.wiped (h : Ws K H M ρ σ) : ∀ vs : List Nat, Ws K H M (forget ρ vs) (wipe σ vs)
  | [] => h
  | v :: vs => by
    have q := (Ws.wiped h vs).forget1 v
    show Ws K H M ((forget ρ vs).set v none) ((wipe σ vs).set v none)
    by_cases hv : v < (forget ρ vs).length
    · have e : ((forget ρ vs).set v none)[v]? = some none := List.getElem?_set_self hv
      obtain ⟨a, b⟩ := q.1.other (x := none) e
      refine ⟨b, ?_⟩
      rw [a]
      exact q.2
    · have hl := (Ws.wiped h vs).1.len
      rw [List.set_eq_of_length_le (by omega)] at q ⊢
      rw [List.set_eq_of_length_le (by omega)]
      exact q
/-- the slot gets the top of the stack -/
theorem Ws.store (h : Ws K H ((some o, v) :: M) ρ σ) (hi : i < ρ.length) : Ws K H M (ρ.set i (some o)) (σ.set i (some v)) := by
  have q := h.forget1 i
  have e : (ρ.set i none)[i]? = some none := List.getElem?_set_self hi
  obtain ⟨a, b⟩ := q.1.other (x := some v) e
  have q2 : Ws K H ((some o, v) :: M) (ρ.set i none) (σ.set i (some v)) := ⟨b, by rw [a]; exact q.2⟩
  have hl := h.1.len
  have q3 := q2.give e (List.getElem?_set_self (by omega))
  rw [set_set] at q3
  exact q3
theorem Ws.fz (h : Ws K H ((some o, v) :: M) ρ σ) : Ws K H ((some (.sh o.d), v) :: M) ρ σ := ⟨h.1, Wd.fz (L := M ++ live ρ σ) h.2⟩
theorem Ws.flat {d : PyData} (h : Ws K H M ρ σ) (q : ∀ G, Sh K G d v) : Ws K H ((some (.sh d), v) :: M) ρ σ := ⟨h.1, Wd.flat (L := M ++ live ρ σ) h.2 q⟩
theorem Ws.dup {d : PyData} (h : Ws K H ((some (.sh d), v) :: M) ρ σ) : Ws K H ((some (.sh d), v) :: (some (.sh d), v) :: M) ρ σ := ⟨h.1, Wd.dup (L := M ++ live ρ σ) h.2⟩
theorem Ws.name {ρ' : Env} (h : Ws K H M ρ σ) (e : rdV i ρ = some (o, ρ')) : ∃ v, σ[i]? = some (some v) ∧ Ws K H ((some o, v) :: M) ρ' σ := by
  unfold rdV at e
  split at e
  · rename_i d e1
    cases e
    obtain ⟨v, e2, q⟩ := h.take e1
    have q2 := Ws.give q.dup (get_set e1) e2
    rw [set_set, set_same e1] at q2
    exact ⟨v, e2, q2⟩
  · rename_i o' _ e1
    cases e
    obtain ⟨v, e2, q⟩ := h.take e1
    have q2 := Ws.give q.fz.dup (get_set e1) e2
    rw [set_set] at q2
    exact ⟨v, e2, q2⟩
  · cases e
theorem Ws.moved {ρ' : Env} (h : Ws K H M ρ σ) (e : mvV i ρ = some (o, ρ')) : ∃ v, σ[i]? = some (some v) ∧ Ws K H ((some o, v) :: M) ρ' σ := by
  unfold mvV at e
  split at e
  · rename_i e1
    cases e
    exact h.take e1
  · cases e
end

/-! ### what operands show -/
def ShK (K : Frag) (G : Hp) : List (Key × PyData) → List (Key × V) → Prop
  | [], xs => xs = []
  | (k, d) :: r, xs => ∃ v t, xs = (k, v) :: t ∧ Sh K G d v ∧ ShK K G r t
def Fo (K : Frag) (G H : Hp) : O → V → Prop
  | .sh d, v => Sh K G d v
  | .ol os, v => ∃ a vs ds, v = .ref a ∧ H a = some (.lst vs) ∧ allSh os = some ds ∧ ShL K G ds vs
  | .ot os, v => ∃ a vs ds, v = .ref a ∧ H a = some (.tup vs) ∧ allSh os = some ds ∧ ShL K G ds vs
  | .od kvs, v => ∃ a xs kds, v = .ref a ∧ H a = some (.dK xs) ∧ allShK kvs = some kds ∧ ShK K G kds xs
def FoL (K : Frag) (G H : Hp) : List O → List V → Prop
  | [], vs => vs = []
  | o :: os, vs => ∃ v r, vs = v :: r ∧ Fo K G H o v ∧ FoL K G H os r
/-- what an operation leaves -/
def Pr (K : Frag) (G H : Hp) : O → V → Hp → Prop
  | .sh d, v, H' => ∃ G', Sub G G' ∧ Sub G' H' ∧ Sub H H' ∧ Sh K G' d v ∧ ∀ a u, H a = some u → G' a = G a
  | .ol os, v, H' => ∃ p vs ds, v = .ref p ∧ H p = none ∧ H' = upd H p (.lst vs) ∧ os = ds.map O.sh ∧ ShL K G ds vs
  | .ot _, _, _ => False
  | .od kvs, v, H' => ∃ p xs kds, v = .ref p ∧ H p = none ∧ H' = upd H p (.dK xs) ∧ kvs = kds.map (fun q : Key × PyData => (q.1, O.sh q.2)) ∧ ShK K G kds xs

section
variable {K : Frag} {G H : Hp} {M L : List En} {ρ : Env} {σ : L2.St} {i : Nat} {o : O} {v : V} {A : List Addr}
theorem OwL.flat : ∀ {os : List O} {vs : List V} {A : List Addr} {ds : List PyData}, OwL K G H os vs A → allSh os = some ds → ShL K G ds vs ∧ A = []
  | [], vs, A, ds, h, e => by
    simp only [OwL] at h
    simp only [allSh] at e
    cases e
    simp only [ShL]
    exact h
  | .sh d :: os, vs, A, ds, h, e => by
    simp only [OwL] at h
    obtain ⟨v, r, B, C, rfl, q1, q2, rfl⟩ := h
    simp only [Ow] at q1
    simp only [allSh, Option.map_eq_some_iff] at e
    obtain ⟨es, e1, rfl⟩ := e
    obtain ⟨q3, rfl⟩ := OwL.flat q2 e1
    simp only [ShL]
    exact ⟨⟨v, r, rfl, q1.2, q3⟩, by rw [q1.1]; rfl⟩
  | .ol _ :: _, _, _, _, _, e => by simp only [allSh] at e; cases e
  | .ot _ :: _, _, _, _, _, e => by simp only [allSh] at e; cases e
  | .od _ :: _, _, _, _, _, e => by simp only [allSh] at e; cases e
theorem OwD.flat : ∀ {os : List (Key × O)} {vs : List (Key × V)} {A : List Addr} {ds : List (Key × PyData)}, OwD K G H os vs A → allShK os = some ds → ShK K G ds vs
  | [], vs, A, ds, h, e => by
    simp only [OwD] at h
    simp only [allShK] at e
    cases e
    simp only [ShK]
    exact h.1
  | (k, .sh d) :: os, vs, A, ds, h, e => by
    simp only [OwD] at h
    obtain ⟨v, r, B, C, rfl, q1, q2, rfl⟩ := h
    simp only [Ow] at q1
    simp only [allShK, Option.map_eq_some_iff] at e
    obtain ⟨es, e1, rfl⟩ := e
    simp only [ShK]
    exact ⟨v, r, rfl, q1.2, OwD.flat q2 e1⟩
  | (_, .ol _) :: _, _, _, _, _, e => by simp only [allShK] at e; cases e
  | (_, .ot _) :: _, _, _, _, _, e => by simp only [allShK] at e; cases e
  | (_, .od _) :: _, _, _, _, _, e => by simp only [allShK] at e; cases e
theorem Ow.fo : ∀ {o : O} {v : V} {A : List Addr}, Ow K G H o v A → o.isFlat = true → Fo K G H o v
  | .sh d, v, A, h, _ => by
    simp only [Ow] at h
    exact h.2
  | .ol os, v, A, h, e => by
    simp only [Ow] at h
    obtain ⟨a, vs, B, rfl, q, r, rfl⟩ := h
    obtain ⟨ds, e⟩ := Option.isSome_iff_exists.mp (show (allSh os).isSome = true from e)
    exact ⟨a, vs, ds, rfl, q, e, (OwL.flat r e).1⟩
  | .ot os, v, A, h, e => by
    simp only [Ow] at h
    obtain ⟨a, vs, B, rfl, q, r, rfl⟩ := h
    obtain ⟨ds, e⟩ := Option.isSome_iff_exists.mp (show (allSh os).isSome = true from e)
    exact ⟨a, vs, ds, rfl, q, e, (OwL.flat r e).1⟩
  | .od kvs, v, A, h, e => by
    simp only [Ow] at h
    obtain ⟨a, xs, B, rfl, q, r, rfl⟩ := h
    obtain ⟨ds, e⟩ := Option.isSome_iff_exists.mp (show (allShK kvs).isSome = true from e)
    exact ⟨a, xs, ds, rfl, q, e, OwD.flat r e⟩
theorem PL.mem : ∀ {L : List En} {A : List Addr} {e : En}, PL K G H L A → e ∈ L → ∃ B, OwE K G H e B
  | f :: L, A, e, h, m => by
    obtain ⟨B, C, h1, h2, _⟩ := h
    rcases List.mem_cons.mp m with rfl | m
    · exact ⟨B, h1⟩
    · exact PL.mem h2 m
theorem allSh_map : ∀ ds : List PyData, allSh (ds.map O.sh) = some ds
  | [] => rfl
  | d :: ds => by simp only [List.map_cons, allSh, allSh_map ds, Option.map_some]
theorem OwL.of_sh : ∀ {ds : List PyData} {vs : List V}, ShL K G ds vs → OwL K G H (ds.map O.sh) vs []
  | [], vs, h => by
    simp only [ShL] at h
    simp only [List.map_nil, OwL]
    exact ⟨h, trivial⟩
  | d :: ds, vs, h => by
    simp only [ShL] at h
    obtain ⟨v, r, rfl, q, t⟩ := h
    simp only [List.map_cons, OwL, Ow]
    exact ⟨v, r, [], [], rfl, ⟨rfl, q⟩, OwL.of_sh t, rfl⟩
theorem OwD.of_sh : ∀ {ds : List (Key × PyData)} {vs : List (Key × V)}, ShK K G ds vs → OwD K G H (ds.map fun q : Key × PyData => (q.1, O.sh q.2)) vs []
  | [], vs, h => by
    simp only [ShK] at h
    simp only [List.map_nil, OwD]
    exact ⟨h, trivial⟩
  | (k, d) :: ds, vs, h => by
    simp only [ShK] at h
    obtain ⟨v, r, rfl, q, t⟩ := h
    simp only [List.map_cons, OwD, Ow]
    exact ⟨v, r, [], [], rfl, ⟨rfl, q⟩, OwD.of_sh t, rfl⟩
theorem Pr.close {H' : Hp} (s : Sub G H) (q : PL K G H L A) (n : A.Nodup) (f : ∀ a ∈ A, G a = none) : ∀ {o : O}, Pr K G H o v H' → Wd K H' ((some o, v) :: L)
  | .sh d, h => by
    obtain ⟨G', h1, h2, h3, h4, h5⟩ := h
    have there := PL.there L A q
    refine ⟨G', A, h2, ⟨[], A, ?_, PL.mono h1 L A (fun a ha => ?_) q, rfl⟩, n, fun a ha => ?_⟩
    · simp only [OwE, Ow]
      exact ⟨trivial, h4⟩
    · obtain ⟨u, hu⟩ := there a ha
      rw [hu]
      exact h3 a u hu
    · obtain ⟨u, hu⟩ := there a ha
      rw [h5 a u hu]
      exact f a ha
  | .ol os, h => by
    obtain ⟨p, vs, ds, rfl, hp, rfl, rfl, hs⟩ := h
    have hA : ∀ a ∈ A, a ≠ p := fun a ha e => by
      obtain ⟨w, hw⟩ := PL.there L A q a ha
      rw [e, hp] at hw
      cases hw
    have hG : G p = none := by
      cases e : G p with
      | none => rfl
      | some w =>
        have := s p w e
        rw [hp] at this
        cases this
    refine ⟨G, p :: A, s.upd hG, ⟨[p], A, ?_, PL.mono (Sub.refl G) L A (fun a ha => upd_ne (hA a ha)) q, rfl⟩, List.nodup_cons.mpr ⟨fun hm => hA p hm rfl, n⟩, fun a ha => ?_⟩
    · simp only [OwE, Ow]
      exact ⟨p, vs, [], rfl, upd_same, OwL.of_sh hs, rfl⟩
    · rcases List.mem_cons.mp ha with rfl | ha
      · exact hG
      · exact f a ha
  | .ot _, h => h.elim
  | .od kvs, h => by
    obtain ⟨p, vs, ds, rfl, hp, rfl, rfl, hs⟩ := h
    have hA : ∀ a ∈ A, a ≠ p := fun a ha e => by
      obtain ⟨w, hw⟩ := PL.there L A q a ha
      rw [e, hp] at hw
      cases hw
    have hG : G p = none := by
      cases e : G p with
      | none => rfl
      | some w =>
        have := s p w e
        rw [hp] at this
        cases this
    refine ⟨G, p :: A, s.upd hG, ⟨[p], A, ?_, PL.mono (Sub.refl G) L A (fun a ha => upd_ne (hA a ha)) q, rfl⟩, List.nodup_cons.mpr ⟨fun hm => hA p hm rfl, n⟩, fun a ha => ?_⟩
    · simp only [OwE, Ow]
      exact ⟨p, vs, [], rfl, upd_same, OwD.of_sh hs, rfl⟩
    · rcases List.mem_cons.mp ha with rfl | ha
      · exact hG
      · exact f a ha
/-- the ways a plain result is left -/
theorem Pr.same {d : PyData} (s : Sub G H) (h : Sh K G d v) : Pr K G H (.sh d) v H := ⟨G, .refl G, s, .refl H, h, fun _ _ _ => rfl⟩
theorem Pr.tup {ds : List PyData} {vs : List V} {p : Addr} (s : Sub G H) (hp : H p = none) (h : ShL K G ds vs) : Pr K G H (.sh (.tuple ds)) (.ref p) (upd H p (.tup vs)) := by
  have hG : G p = none := by
    cases e : G p with
    | none => rfl
    | some w =>
      have := s p w e
      rw [hp] at this
      cases this
  have s1 : Sub G (upd G p (.tup vs)) := (Sub.refl G).upd hG
  refine ⟨upd G p (.tup vs), s1, fun a u h => ?_, (Sub.refl H).upd hp, ?_, fun a u h => upd_ne fun e => ?_⟩
  · by_cases e : a = p
    · rw [e] at h ⊢
      rw [upd_same] at h ⊢
      exact h
    · rw [upd_ne e] at h ⊢
      exact s a u h
  · simp only [Sh]
    exact ⟨p, vs, rfl, .of upd_same, ShL.mono s1 ds vs h⟩
  · rw [e, hp] at h
    cases h
theorem Pr.lst {ds : List PyData} {vs : List V} {p : Addr} (hp : H p = none) (h : ShL K G ds vs) : Pr K G H (olOf ds) (.ref p) (upd H p (.lst vs)) := ⟨p, vs, ds, rfl, hp, rfl, rfl, h⟩
end

/-! ### operands on the stack -/
def Ats : List Opd → List V → L2.St → Prop
  | [], vs, _ => vs = []
  | .sl i :: xs, vs, σ => ∃ v r, vs = v :: r ∧ σ[i]? = some (some v) ∧ Ats xs r σ
  | .tv _ :: xs, vs, σ => ∃ v r, vs = v :: r ∧ Ats xs r σ
def pushes : List Opd → List V → List En → List En
  | .sl _ :: xs, _ :: vs, M => pushes xs vs M
  | .tv o :: xs, v :: vs, M => pushes xs vs ((some o, v) :: M)
  | _, _, M => M
theorem pushes_suffix : ∀ (xs : List Opd) (vs : List V) (M : List En), ∃ T, pushes xs vs M = T ++ M
  | [], _, M => ⟨[], by simp only [pushes, List.nil_append]⟩
  | .sl _ :: xs, [], M => ⟨[], by simp only [pushes, List.nil_append]⟩
  | .tv _ :: xs, [], M => ⟨[], by simp only [pushes, List.nil_append]⟩
  | .sl _ :: xs, _ :: vs, M => pushes_suffix xs vs M
  | .tv o :: xs, v :: vs, M => by
    obtain ⟨T, h⟩ := pushes_suffix xs vs ((some o, v) :: M)
    exact ⟨T ++ [(some o, v)], by rw [show pushes (.tv o :: xs) (v :: vs) M = pushes xs vs ((some o, v) :: M) from rfl, h, List.append_assoc]; rfl⟩
theorem pushes_mem : ∀ {xs : List Opd} {vs : List V} {M : List En} {e : En}, e ∈ M → e ∈ pushes xs vs M := fun {xs vs M e} h => by
  obtain ⟨T, q⟩ := pushes_suffix xs vs M
  rw [q]
  exact List.mem_append_right _ h
section
variable {K : Frag} {H : Hp} {ρ : Env} {σ : L2.St}
theorem Cov.mem (c : Cov ρ σ) {i : Nat} {o : O} {v : V} (e : ρ[i]? = some (some o)) (e2 : σ[i]? = some (some v)) : (some o, v) ∈ live ρ σ := by
  obtain ⟨w, e3, p, _⟩ := c.take e
  rw [e2] at e3
  cases e3
  exact p.mem_iff.mpr List.mem_cons_self
theorem op_fo {G : Hp} {A : List Addr} {L : List En} (c : Cov ρ σ) : ∀ {xs : List Opd} {vs : List V} {M : List En} {os : List O}, (∀ e ∈ pushes xs vs M ++ live ρ σ, e ∈ L) → PL K G H L A → Ats xs vs σ → rdOs ρ xs = some os → FoL K G H os vs
  | [], vs, M, os, _, _, a, e => by
    simp only [rdOs] at e
    cases e
    exact a
  | .sl i :: xs, vs, M, os, m, q, a, e => by
    obtain ⟨v, r, rfl, e1, a⟩ := a
    simp only [rdOs] at e
    split at e
    · rename_i o os' h1 h2
      split at e
      · rename_i hf
        cases e
        have h3 : ρ[i]? = some (some o) := by
          simp only [rdO] at h1
          split at h1
          · rename_i o2 h4
            cases h1
            exact h4
          · cases h1
        obtain ⟨B, q2⟩ := PL.mem q (m _ (List.mem_append_right _ (c.mem h3 e1)))
        exact ⟨v, r, rfl, Ow.fo q2 hf, op_fo c (xs := xs) (vs := r) (M := M) m q a h2⟩
      · cases e
    · cases e
  | .tv o1 :: xs, vs, M, os, m, q, a, e => by
    obtain ⟨v, r, rfl, a⟩ := a
    simp only [rdOs] at e
    split at e
    · rename_i o os' h1 h2
      split at e
      · rename_i hf
        cases e
        simp only [rdO] at h1
        cases h1
        obtain ⟨B, q2⟩ := PL.mem q (m _ (List.mem_append_left _ (pushes_mem (xs := xs) (vs := r) List.mem_cons_self)))
        exact ⟨v, r, rfl, Ow.fo q2 hf, op_fo c (xs := xs) (vs := r) (M := (some o1, v) :: M) m q a h2⟩
      · cases e
    · cases e
/-- operands at an operation -/
theorem op_fin {xs : List Opd} {vs : List V} {M : List En} {os : List O} (h : Ws K H (pushes xs vs M) ρ σ) (a : Ats xs vs σ) (e : rdOs ρ xs = some os) :
    ∃ G, Sub G H ∧ FoL K G H os vs ∧ (∀ o v H', Pr K G H o v H' → Ws K H' ((some o, v) :: M) ρ σ) := by
  obtain ⟨c, G, A, s, q, n, f⟩ := h
  have hf := op_fo c (L := pushes xs vs M ++ live ρ σ) (fun _ z => z) q a e
  refine ⟨G, s, hf, fun o v H' p => ⟨c, ?_⟩⟩
  obtain ⟨T, hT⟩ := pushes_suffix xs vs M
  rw [hT, List.append_assoc] at q
  obtain ⟨B, C, _, q2, rfl⟩ := PL.split _ _ _ q
  exact Pr.close s q2 (List.nodup_append.mp n).2.1 (fun a ha => f a (List.mem_append_right _ ha)) p
end

/-! ### readings -/
def tS (K : Frag) (C : Cal) (τ : T) : TE := fun σ H Q => ∃ ρ o ρ' M, ev C τ ρ = some (o, ρ') ∧ Ws K H M ρ σ ∧ ∀ v H', Ws K H' ((some o, v) :: M) ρ' σ → Q v H'
def tT (K : Frag) (C : Cal) (τ : T) : TT := fun σ H Q => ∃ ρ b ρ' M, ev C τ ρ = some (.sh (.bool b), ρ') ∧ Ws K H M ρ σ ∧ ∀ H', Ws K H' M ρ' σ → Q b H'
/-- an operand -/
def tO (K : Frag) (C : Cal) (τ : T) : TE := match isNm τ with
  | some i => tVar i
  | none => tS K C τ
def tOs (K : Frag) (C : Cal) : List T → TA
  | [] => tNil
  | τ :: τs => tCons (tO K C τ) (tOs K C τs)
def tSs (K : Frag) (C : Cal) : List T → TA
  | [] => tNil
  | τ :: τs => tCons (tS K C τ) (tSs K C τs)
section
variable {X : Cx} {C : Cal}
theorem PE.imp {e : Expr} {t t' : TE} (h : PE X e t) (w : ∀ σ H Q, t' σ H Q → t σ H Q) : PE X e t' := ⟨fun pins s σ H Q I q => h.run pins s σ H Q I (w σ H Q q)⟩
theorem PT.imp {e : Expr} {t t' : TT} (h : PT X e t) (w : ∀ σ H Q, t' σ H Q → t σ H Q) : PT X e t' := ⟨fun pins s σ H Q I q => h.run pins s σ H Q I (w σ H Q q)⟩
theorem PS.imp {e : Stmt} {t t' : TS} (h : PS X e t) (w : ∀ D σ H, t' D σ H → t D σ H) : PS X e t' := ⟨fun pins s σ H Q I q => h.run pins s σ H Q I (w Q σ H q)⟩
theorem PSs.imp {e : List Stmt} {t t' : TS} (h : PSs X e t) (w : ∀ D σ H, t' D σ H → t D σ H) : PSs X e t' := ⟨fun pins s σ H Q I q => h.run pins s σ H Q I (w Q σ H q)⟩
theorem tO_nm {K : Frag} {i : Nat} : tO K C (.nm i) = tVar i := rfl
theorem tO_tS {K : Frag} {τ : T} (h : isNm τ = none) : tO K C τ = tS K C τ := by
  unfold tO
  rw [h]
theorem isNm_some {τ : T} {i : Nat} (h : isNm τ = some i) : τ = .nm i := by
  cases τ <;> simp [isNm] at h
  rw [h]
/-- the operands one behind another -/
theorem opds {K : Frag} {σ : L2.St} : ∀ {τs : List T} {ρ ρ' : Env} {xs : List Opd} {H : Hp} {M : List En} {R : List V → Hp → Prop}, evOs C τs ρ = some (xs, ρ') → Ws K H M ρ σ →
    (∀ vs H', Ats xs vs σ → Ws K H' (pushes xs vs M) ρ' σ → R vs H') → tOs K C τs σ H R
  | [], ρ, ρ', xs, H, M, R, e, w, q => by
    simp only [evOs] at e
    cases e
    exact q [] H rfl w
  | τ :: τs, ρ, ρ', xs, H, M, R, e, w, q => by
    simp only [evOs] at e
    split at e
    · rename_i i hi
      have hi := isNm_some hi
      subst hi
      split at e
      · rename_i o ho
        split at e
        · rename_i xs' ρ2 h2
          cases e
          show tVar i σ H fun x H1 => tOs K C τs σ H1 fun vs H2 => R (x :: vs) H2
          have h3 : ρ[i]? = some (some o) := by
            simp only [rdO] at ho
            split at ho
            · rename_i o2 h4
              cases ho
              exact h4
            · cases ho
          obtain ⟨v, hv, _⟩ := w.1.take h3
          exact ⟨v, hv, opds h2 w fun vs H' a w' => q (v :: vs) H' ⟨v, vs, rfl, hv, a⟩ w'⟩
        · cases e
      · cases e
    · rename_i hi
      split at e
      · rename_i o ρ1 h1
        split at e
        · rename_i xs' ρ2 h2
          cases e
          show tO K C τ σ H fun x H1 => tOs K C τs σ H1 fun vs H2 => R (x :: vs) H2
          rw [tO_tS hi]
          exact ⟨ρ, o, ρ1, M, h1, w, fun v H1 w1 => opds h2 w1 fun vs H' a w' => q (v :: vs) H' ⟨v, vs, rfl, a⟩ w'⟩
        · cases e
      · cases e
/-- an operation's soundness -/
def PrimOk (K : Frag) (r : List V → Hp → VK → Prop) (p : List O → Option O) : Prop := ∀ os o, p os = some o → ∀ G H vs Q, Sub G H → FoL K G H os vs → (∀ v H', Pr K G H o v H' → Q v H') → r vs H Q
theorem op_sim {K : Frag} {k : OpK} {τs : List T} {r : List V → Hp → VK → Prop} (p : PrimOk K r (prim k)) (σ : L2.St) (H : Hp) (Q : VK) (h : tS K C (.op k τs) σ H Q) : tOs K C τs σ H fun vs H1 => r vs H1 Q := by
  obtain ⟨ρ, o, ρ', M, e, w, q⟩ := h
  simp only [ev] at e
  split at e
  · rename_i xs ρ1 h1
    split at e
    · rename_i os h2
      split at e
      · rename_i o' h3
        cases e
        refine opds h1 w fun vs H' a w' => ?_
        obtain ⟨G, s, f, cl⟩ := op_fin w' a h2
        exact p os _ h3 G H' vs Q s f fun v H2 z => q v H2 (cl _ v H2 z)
      · cases e
    · cases e
  · cases e
end
end Qv
end
section
set_option Elab.async false
set_option linter.all false
set_option maxRecDepth 100000
set_option maxHeartbeats 1000000
/-! Q4: each operation keeps what its rule asks. -/
namespace Qv
open PySem PySem.Spec PyProof.Rows L2

def r1L (r : V → Hp → VK → Prop) : List V → Hp → VK → Prop := fun vs H Q => match vs with
  | [x] => r x H Q
  | _ => False
def r2L (r : R2) : List V → Hp → VK → Prop := fun vs H Q => match vs with
  | [x, y] => r x y H Q
  | _ => False

section
variable {K : Frag} {G H : Hp}
theorem FoL.zero {vs : List V} (h : FoL K G H [] vs) : vs = [] := h
theorem FoL.one {a : O} {vs : List V} (h : FoL K G H [a] vs) : ∃ x, vs = [x] ∧ Fo K G H a x := by
  obtain ⟨x, r, rfl, h1, rfl⟩ := h
  exact ⟨x, rfl, h1⟩
theorem FoL.two {a b : O} {vs : List V} (h : FoL K G H [a, b] vs) : ∃ x y, vs = [x, y] ∧ Fo K G H a x ∧ Fo K G H b y := by
  obtain ⟨x, r, rfl, h1, h2⟩ := h
  obtain ⟨y, rfl, h3⟩ := FoL.one h2
  exact ⟨x, y, rfl, h1, h3⟩
theorem FoL.three {a b c : O} {vs : List V} (h : FoL K G H [a, b, c] vs) : ∃ x y z, vs = [x, y, z] ∧ Fo K G H a x ∧ Fo K G H b y ∧ Fo K G H c z := by
  obtain ⟨x, r, rfl, h1, h2⟩ := h
  obtain ⟨y, z, rfl, h3, h4⟩ := FoL.two h2
  exact ⟨x, y, z, rfl, h1, h3, h4⟩
theorem Fo.int {i : Int} {v : V} (h : Fo K G H (.sh (.int i)) v) : v = .int i := by simpa only [Fo, Sh] using h
theorem Fo.str {i : Str} {v : V} (h : Fo K G H (.sh (.str i)) v) : v = .str i := by simpa only [Fo, Sh] using h
theorem Fo.bool {i : Bool} {v : V} (h : Fo K G H (.sh (.bool i)) v) : v = .bl i := by simpa only [Fo, Sh] using h
theorem Fo.none {v : V} (h : Fo K G H (.sh .none) v) : v = .non := by simpa only [Fo, Sh] using h
theorem prI {i : Int} (s : Sub G H) : Pr K G H (shI i) (.int i) H := Pr.same s (by simp only [Sh])
theorem prB {i : Bool} (s : Sub G H) : Pr K G H (shB i) (.bl i) H := Pr.same s (by simp only [Sh])
theorem prS {i : Str} (s : Sub G H) : Pr K G H (shS i) (.str i) H := Pr.same s (by simp only [Sh])
theorem prN (s : Sub G H) : Pr K G H (.sh .none) .non H := Pr.same s (by simp only [Sh])
theorem gd_some {α : Type} {c : Bool} {x y : α} (h : gd c x = some y) : c = true ∧ x = y := by
  unfold gd at h
  split at h
  · rename_i hc
    exact ⟨hc, Option.some.inj h⟩
  · cases h
theorem allSh_dL : ∀ {os : List O} {ds : List PyData}, allSh os = some ds → O.dL os = ds
  | [], ds, h => by
    simp only [allSh] at h
    cases h
    simp only [O.dL]
  | .sh d :: os, ds, h => by
    simp only [allSh, Option.map_eq_some_iff] at h
    obtain ⟨es, h, rfl⟩ := h
    simp only [O.dL, O.d, allSh_dL h]
  | .ol _ :: _, _, h => by simp only [allSh] at h; cases h
  | .ot _ :: _, _, h => by simp only [allSh] at h; cases h
  | .od _ :: _, _, h => by simp only [allSh] at h; cases h
theorem Fo.list {o : O} {ds : List PyData} {v : V} (e : o.list? = some ds) (s : Sub G H) (h : Fo K G H o v) : ∃ a vs, v = .ref a ∧ H a = some (.lst vs) ∧ ShL K G ds vs := by
  cases o with
  | sh d =>
    cases d with
    | list es =>
      simp only [O.list?] at e
      cases e
      simp only [Fo, Sh] at h
      obtain ⟨a, vs, rfl, h1, h2⟩ := h
      exact ⟨a, vs, rfl, s _ _ h1, h2⟩
    | _ => simp only [O.list?] at e; cases e
  | ol os =>
    simp only [O.list?] at e
    obtain ⟨a, vs, ds2, rfl, h1, h2, h3⟩ := h
    rw [e] at h2
    cases h2
    exact ⟨a, vs, rfl, h1, h3⟩
  | ot os => simp only [O.list?] at e; cases e
  | od os => simp only [O.list?] at e; cases e
theorem Fo.tup {o : O} {ds : List PyData} {v : V} (e : o.tup? = some ds) (s : Sub G H) (h : Fo K G H o v) : ∃ a vs, v = .ref a ∧ SqT K H a vs ∧ ShL K G ds vs := by
  cases o with
  | sh d =>
    cases d with
    | tuple es =>
      simp only [O.tup?] at e
      cases e
      simp only [Fo, Sh] at h
      obtain ⟨a, vs, rfl, h1, h2⟩ := h
      exact ⟨a, vs, rfl, s.sqT h1, h2⟩
    | _ => simp only [O.tup?] at e; cases e
  | ot os =>
    simp only [O.tup?] at e
    obtain ⟨a, vs, ds2, rfl, h1, h2, h3⟩ := h
    rw [e] at h2
    cases h2
    exact ⟨a, vs, rfl, .of h1, h3⟩
  | ol os => simp only [O.tup?] at e; cases e
  | od os => simp only [O.tup?] at e; cases e
theorem Fo.seq {o : O} {ds : List PyData} {v : V} (e : o.seq? = some ds) (s : Sub G H) (h : Fo K G H o v) : ∃ a vs, v = .ref a ∧ (SqL K H a vs ∨ SqT K H a vs) ∧ ShL K G ds vs := by
  unfold O.seq? at e
  split at e
  · rename_i ds2 e2
    cases e
    obtain ⟨a, vs, rfl, h1, h2⟩ := Fo.list e2 s h
    exact ⟨a, vs, rfl, .inl (.of h1), h2⟩
  · obtain ⟨a, vs, rfl, h1, h2⟩ := Fo.tup e s h
    exact ⟨a, vs, rfl, .inr h1, h2⟩
theorem ShL.nil_iff {ds : List PyData} {vs : List V} (h : ShL K G ds vs) : ds.isEmpty = vs.isEmpty := by
  have := h.len
  cases ds <;> cases vs <;> simp_all
theorem r2_i2 {f : Int → Int → Option O} {r : R2} (h : ∀ i j o, f i j = some o → ∀ G H Q, Sub G H → (∀ v H', Pr K G H o v H' → Q v H') → r (.int i) (.int j) H Q) : PrimOk K (r2L r) (i2 f) := by
  intro os o e G H vs Q s g q
  unfold i2 at e
  split at e
  · obtain ⟨x, y, rfl, h1, h2⟩ := g.two
    cases h1.int
    cases h2.int
    exact h _ _ _ e G H Q s q
  · cases e
theorem PrimOk.congr {r : List V → Hp → VK → Prop} {p p' : List O → Option O} (h : PrimOk K r p) (e : ∀ os, p' os = p os) : PrimOk K r p' := fun os o q => h os o ((e os).symm.trans q)

theorem r1_u1 {f : O → Option O} {r : V → Hp → VK → Prop} (h : ∀ a o, f a = some o → ∀ G H x Q, Sub G H → Fo K G H a x → (∀ v H', Pr K G H o v H' → Q v H') → r x H Q) : PrimOk K (r1L r) (u1 f) := by
  intro os o e G H vs Q s g q
  unfold u1 at e
  split at e
  · obtain ⟨x, rfl, h1⟩ := g.one
    exact h _ _ e G H x Q s h1 q
  · cases e

/-! ### numbers -/
theorem p_sub : PrimOk K (r2L (rI0 fun i j => .int (i - j))) (prim .sub) :=
  r2_i2 fun i j o e G H Q s q => by
    cases e
    exact ⟨i, j, rfl, rfl, q _ _ (prI s)⟩
theorem p_fdiv : PrimOk K (r2L (rI CDivN fun i j => .int (i.fdiv j))) (prim .fdiv) :=
  r2_i2 fun i j o e G H Q s q => by
    obtain ⟨c, rfl⟩ := gd_some e
    have c : j ≠ 0 ∧ j.natAbs < 1073741824 := of_decide_eq_true c
    exact ⟨i, j, rfl, rfl, c, q _ _ (prI s)⟩
theorem p_mod : PrimOk K (r2L (rI (fun _ j => j ≠ 0) fun i j => .int (i.fmod j))) (prim .mod) :=
  r2_i2 fun i j o e G H Q s q => by
    obtain ⟨c, rfl⟩ := gd_some e
    exact ⟨i, j, rfl, rfl, of_decide_eq_true c, q _ _ (prI s)⟩
theorem p_pow : PrimOk K (r2L (rI CPow fun i j => .int (i ^ j.toNat))) (prim .pow) :=
  r2_i2 fun i j o e G H Q s q => by
    obtain ⟨c, rfl⟩ := gd_some e
    have c : 0 ≤ j ∧ j ≤ 1000000 ∧ i.natAbs < 2 ^ 64 := of_decide_eq_true c
    exact ⟨i, j, rfl, rfl, c, q _ _ (prI s)⟩
theorem p_neg : PrimOk K (r1L (rU fun i => .int (-i))) (prim .neg) :=
  r1_u1 fun a o e G H x Q s h q => by
    unfold pNeg at e
    split at e
    · rename_i i
      cases e
      cases h.int
      exact ⟨i, rfl, q _ _ (prI s)⟩
    · cases e
def rAddI : R2 := rI0 fun i j => .int (i + j)
def rAddS : R2 := fun x y H Q => ∃ i j, x = .str i ∧ y = .str j ∧ i.length + j.length ≤ sizeLine ∧ Q (.str (i ++ j)) H
def rAdd (K : Frag) : R2 := fun x y H Q => rAddI x y H Q ∨ rAddS x y H Q ∨ rCat x y H Q ∨ rCatA K x y H Q
theorem OpR.or {X : Cx} {f : Value → Value → Sem Value} {r r' : R2} (h : OpR X f r) (h' : OpR X f r') : OpR X f fun x y H Q => r x y H Q ∨ r' x y H Q := by
  intro pins s σ H x y v u Q I rx ry q
  rcases q with q | q
  · exact h pins s σ H x y v u Q I rx ry q
  · exact h' pins s σ H x y v u Q I rx ry q
theorem o_add {X : Cx} : OpR X (binaryOp .Add) (rAdd X.K) := OpR.or op_add (OpR.or op_add_str (OpR.or op_cat op_catA))
theorem p_add : PrimOk K (r2L (rAdd K)) (prim .add) := by
  intro os o e G H vs Q s g q
  change pAdd os = some o at e
  unfold pAdd at e
  split at e
  · cases e
    obtain ⟨x, y, rfl, h1, h2⟩ := g.two
    cases h1.int
    cases h2.int
    exact .inl ⟨_, _, rfl, rfl, q _ _ (prI s)⟩
  · obtain ⟨c, rfl⟩ := gd_some e
    obtain ⟨x, y, rfl, h1, h2⟩ := g.two
    cases h1.str
    cases h2.str
    exact .inr (.inl ⟨_, _, rfl, rfl, of_decide_eq_true c, q _ _ (prS s)⟩)
  · obtain ⟨x, y, rfl, h1, h2⟩ := g.two
    split at e
    · rename_i xs ys e1 e2
      obtain ⟨c, rfl⟩ := gd_some e
      obtain ⟨a, vs, rfl, ha, sa⟩ := Fo.list e1 s h1
      obtain ⟨b, ws, rfl, hb, sb⟩ := Fo.list e2 s h2
      refine .inr (.inr (.inl ⟨a, b, vs, ws, rfl, rfl, ha, hb, ?_, fun p hp => q _ _ (Pr.lst hp (sa.append sb))⟩))
      rw [← sa.len, ← sb.len]
      exact of_decide_eq_true c
    · split at e
      · rename_i xs ys _ _ _
        obtain ⟨c, rfl⟩ := gd_some e
        obtain ⟨a, vs, rfl, ha, sa⟩ := Fo.tup (ds := xs) rfl s h1
        obtain ⟨b, ws, rfl, hb, sb⟩ := Fo.tup (ds := ys) rfl s h2
        refine .inr (.inr (.inr ⟨a, b, vs, ws, rfl, rfl, ha, hb, ?_, fun z => ?_, fun z z2 => ?_, fun z z2 p hp => q _ _ (Pr.tup s hp (sa.append sb))⟩))
        · rw [← sa.len, ← sb.len]
          exact of_decide_eq_true c
        · subst z
          have : xs = [] := List.eq_nil_of_length_eq_zero sa.len
          subst this
          exact q _ _ (Pr.same s h2)
        · subst z2
          have : ys = [] := List.eq_nil_of_length_eq_zero sb.len
          subst this
          rw [List.append_nil] at q
          exact q _ _ (Pr.same s h1)
      · cases e
  · cases e
theorem ShL.rep {ds : List PyData} {vs : List V} (h : ShL K G ds vs) : ∀ n : Nat, ShL K G (List.replicate n ds).flatten (List.replicate n vs).flatten
  | 0 => by simp only [List.replicate_zero, List.flatten_nil, ShL]
  | n + 1 => by
    simp only [List.replicate_succ, List.flatten_cons]
    exact h.append (ShL.rep h n)
def rMul : R2 := fun x y H Q => rI CMul (fun i j => .int (i * j)) x y H Q ∨ rRep x y H Q
theorem o_mul {X : Cx} : OpR X (binaryOp .Mult) rMul := OpR.or op_mul op_rep
theorem p_mul : PrimOk K (r2L rMul) (prim .mul) := by
  intro os o e G H vs Q s g q
  change pMul os = some o at e
  unfold pMul at e
  split at e
  · obtain ⟨c, rfl⟩ := gd_some e
    obtain ⟨x, y, rfl, h1, h2⟩ := g.two
    cases h1.int
    cases h2.int
    have c := of_decide_eq_true c
    exact .inl ⟨_, _, rfl, rfl, c, q _ _ (prI s)⟩
  · rename_i a j _
    obtain ⟨x, y, rfl, h1, h2⟩ := g.two
    cases h2.int
    split at e
    · rename_i xs e1
      obtain ⟨c, rfl⟩ := gd_some e
      have c := of_decide_eq_true c
      obtain ⟨a, vs, rfl, ha, sa⟩ := Fo.list e1 s h1
      refine .inr ⟨a, j, vs, rfl, rfl, ha, c.1, c.2.1, ?_, fun p hp => q _ _ (Pr.lst hp (sa.rep _))⟩
      rw [← sa.len]
      exact c.2.2
    · cases e
  · cases e
theorem p_max : PrimOk K (fun vs H Q => ∃ i j : Int, vs = [.int i, .int j] ∧ Q (.int (if j > i then j else i)) H) (prim .max2) := by
  intro os o e G H vs Q s g q
  change i2 _ os = some o at e
  unfold i2 at e
  split at e
  · obtain ⟨x, y, rfl, h1, h2⟩ := g.two
    cases h1.int
    cases h2.int
    cases e
    exact ⟨_, _, rfl, q _ _ (prI s)⟩
  · cases e
theorem p_min : PrimOk K (fun vs H Q => ∃ i j : Int, vs = [.int i, .int j] ∧ Q (.int (if j < i then j else i)) H) (prim .min2) := by
  intro os o e G H vs Q s g q
  change i2 _ os = some o at e
  unfold i2 at e
  split at e
  · obtain ⟨x, y, rfl, h1, h2⟩ := g.two
    cases h1.int
    cases h2.int
    cases e
    exact ⟨_, _, rfl, q _ _ (prI s)⟩
  · cases e
theorem p_divmod : PrimOk K (fun vs H Q => ∃ i j : Int, vs = [.int i, .int j] ∧ CDiv i j ∧ ∀ p, H p = none → Q (.ref p) (upd H p (.tup [.int (i / j), .int (i % j)]))) (prim .divmod) := by
  intro os o e G H vs Q s g q
  change i2 _ os = some o at e
  unfold i2 at e
  split at e
  · rename_i i j
    obtain ⟨x, y, rfl, h1, h2⟩ := g.two
    cases h1.int
    cases h2.int
    obtain ⟨c, rfl⟩ := gd_some e
    have c : 0 < j ∧ j < 1073741824 := of_decide_eq_true c
    refine ⟨_, _, rfl, c, fun p hp => q _ _ (Pr.tup s hp ?_)⟩
    simp only [ShL, Sh]
    exact ⟨_, _, rfl, rfl, _, _, rfl, rfl, rfl⟩
  · cases e
theorem p_int : PrimOk K (fun vs H Q => (∃ i, vs = [.int i] ∧ Q (.int i) H) ∨ ∃ k, vs = [.bl k] ∧ Q (.int (if k then 1 else 0)) H) (prim .int1) := by
  intro os o e G H vs Q s g q
  change u1 _ os = some o at e
  unfold u1 at e
  split at e
  · obtain ⟨x, rfl, h1⟩ := g.one
    unfold pInt at e
    split at e
    · cases e
      cases h1.int
      exact .inl ⟨_, rfl, q _ _ (prI s)⟩
    · cases e
      cases h1.bool
      exact .inr ⟨_, rfl, q _ _ (prI s)⟩
    · cases e
  · cases e
theorem p_abs : PrimOk K (fun vs H Q => ∃ i, vs = [.int i] ∧ Q (.int (if i < 0 then -i else i)) H) (prim .abs) := by
  intro os o e G H vs Q s g q
  change u1 _ os = some o at e
  unfold u1 at e
  split at e
  · obtain ⟨x, rfl, h1⟩ := g.one
    unfold pAbs at e
    split at e
    · cases e
      cases h1.int
      exact ⟨_, rfl, q _ _ (prI s)⟩
    · cases e
  · cases e

/-! ### comparisons -/
mutual
theorem Sh.dp (s : Sub G H) : ∀ (d : PyData) (v : V), d.canLay0 = true → Sh K G d v → Dp K H v d
  | .none, v, _, h => by
    simp only [Sh] at h
    rw [h]
    exact .non
  | .bool b, v, _, h => by
    simp only [Sh] at h
    rw [h]
    exact .bl b
  | .int i, v, _, h => by
    simp only [Sh] at h
    rw [h]
    exact .int i
  | .str x, v, _, h => by
    simp only [Sh] at h
    rw [h]
    exact .str x
  | .list ds, v, c, h => by
    simp only [Sh] at h
    simp only [PyData.canLay0] at c
    obtain ⟨a, vs, rfl, h1, h2⟩ := h
    exact .lst (.of (s _ _ h1)) (ShL.dp s ds vs c h2)
  | .tuple ds, v, c, h => by
    simp only [Sh] at h
    simp only [PyData.canLay0] at c
    obtain ⟨a, vs, rfl, h1, h2⟩ := h
    exact .tup (s.sqT h1) (ShL.dp s ds vs c h2)
  | .dict _, _, c, _ => by
    simp only [PyData.canLay0] at c
    cases c
theorem ShL.dp (s : Sub G H) : ∀ (ds : List PyData) (vs : List V), PyData.canLayAll0 ds = true → ShL K G ds vs → DpAll K H vs ds
  | [], vs, _, h => by
    simp only [ShL] at h
    rw [h]
    exact .nil
  | d :: ds, vs, c, h => by
    simp only [ShL] at h
    obtain ⟨v, r, rfl, h1, h2⟩ := h
    simp only [PyData.canLayAll0, Bool.and_eq_true] at c
    exact .cons (Sh.dp s d v c.1 h1) (ShL.dp s ds r c.2 h2)
end
theorem Fo.dp (s : Sub G H) {o : O} {v : V} (c : o.d.canLay0 = true) (h : Fo K G H o v) : Dp K H v o.d := by
  cases o with
  | sh d => exact Sh.dp s d v c h
  | ol os =>
    obtain ⟨a, vs, ds, rfl, h1, h2, h3⟩ := h
    simp only [O.d, allSh_dL h2, PyData.canLay0] at c ⊢
    exact .lst (.of h1) (ShL.dp s ds vs c h3)
  | ot os =>
    obtain ⟨a, vs, ds, rfl, h1, h2, h3⟩ := h
    simp only [O.d, allSh_dL h2, PyData.canLay0] at c ⊢
    exact .tup (.of h1) (ShL.dp s ds vs c h3)
  | od os =>
    simp only [O.d, PyData.canLay0] at c
    cases c
theorem scalD_sh {a : O} {e : PyData} (h : scalD a.d e = true) : ∃ d, a = .sh d := by
  cases a with
  | sh d => exact ⟨d, rfl⟩
  | _ => cases e <;> (simp only [O.d, scalD] at h; cases h)
theorem scalD_comm (d e : PyData) (h : scalD d e = true) : scalD e d = true := by
  cases d <;> cases e <;> first | rfl | (simp only [scalD] at h; cases h)
theorem scal_ok {d e : PyData} {x y : V} (h : scalD d e = true) (h1 : Sh K G d x) (h2 : Sh K G e y) : scal x y = true ∧ decide (x = y) = PyData.eqv d e := by
  cases d <;> cases e <;> first
    | exact absurd (show false = true from h) Bool.false_ne_true
    | (simp only [Sh] at h1 h2
       subst h1 h2
       refine ⟨rfl, ?_⟩
       simp [PyData.eqv, Bool.beq_eq_decide_eq])
def rEqA (K : Frag) : R2 := fun x y H Q => rEq x y H Q ∨ rEqD K x y H Q
def rNeA (K : Frag) : R2 := fun x y H Q => rNe x y H Q ∨ rNeD K x y H Q
theorem o_eq {X : Cx} (hu : X.A.units + 64 < cLine) : OpR X (compareOp .Eq) (rEqA X.K) := OpR.or op_eq (op_eqD hu)
theorem o_ne {X : Cx} (hu : X.A.units + 64 < cLine) : OpR X (compareOp .NotEq) (rNeA X.K) := OpR.or op_ne (op_neD hu)
theorem eq_in {os : List O} {b : Bool} (e : pEq os = some b) {vs : List V} (s : Sub G H) (g : FoL K G H os vs) :
    ∃ x y, vs = [x, y] ∧ ((scal x y = true ∧ decide (x = y) = b) ∨ ∃ d e, Dp K H x d ∧ Dp K H y e ∧ SeqAt.shaped d = true ∧ SeqAt.shaped e = true ∧ PyData.eqv d e = b) := by
  unfold pEq at e
  split at e
  · rename_i a c
    obtain ⟨x, y, rfl, h1, h2⟩ := g.two
    refine ⟨x, y, rfl, ?_⟩
    split at e
    · rename_i hs
      obtain ⟨d, rfl⟩ := scalD_sh hs
      obtain ⟨d2, rfl⟩ := scalD_sh (scalD_comm _ _ hs)
      cases e
      exact .inl (scal_ok hs h1 h2)
    · obtain ⟨hc, rfl⟩ := gd_some e
      simp only [Bool.and_eq_true] at hc
      exact .inr ⟨_, _, Fo.dp s (SeqAt.canLay_of_shaped hc.1) h1, Fo.dp s (SeqAt.canLay_of_shaped hc.2) h2, hc.1, hc.2, rfl⟩
  · cases e
theorem p_eq : PrimOk K (r2L (rEqA K)) (prim .eq) := by
  intro os o e G H vs Q s g q
  change (pEq os).map shB = some o at e
  simp only [Option.map_eq_some_iff] at e
  obtain ⟨b, e, rfl⟩ := e
  obtain ⟨x, y, rfl, ⟨h1, h2⟩ | ⟨d, d2, h1, h2, h3, h4, h5⟩⟩ := eq_in e s g
  · exact .inl ⟨h1, by rw [h2]; exact q _ _ (prB s)⟩
  · exact .inr ⟨d, d2, h1, h2, h3, h4, by rw [h5]; exact q _ _ (prB s)⟩
theorem p_ne : PrimOk K (r2L (rNeA K)) (prim .ne) := by
  intro os o e G H vs Q s g q
  change (pEq os).map (fun b => shB !b) = some o at e
  simp only [Option.map_eq_some_iff] at e
  obtain ⟨b, e, rfl⟩ := e
  obtain ⟨x, y, rfl, ⟨h1, h2⟩ | ⟨d, d2, h1, h2, h3, h4, h5⟩⟩ := eq_in e s g
  · exact .inl ⟨h1, by rw [h2]; exact q _ _ (prB s)⟩
  · exact .inr ⟨d, d2, h1, h2, h3, h4, by rw [h5]; exact q _ _ (prB s)⟩
def rCmp (f : Int → Int → Bool) (g : List Nat → List Nat → Bool) : R2 := fun x y H Q => rI0 (fun i j => .bl (f i j)) x y H Q ∨ ∃ i j : Str, x = .str i ∧ y = .str j ∧ Q (.bl (g i.cps.toList j.cps.toList)) H
theorem p_cmp (f : Int → Int → Bool) (k : List Nat → List Nat → Bool) : PrimOk K (r2L (rCmp f k)) (pCmp f k) := by
  intro os o e G H vs Q s g q
  unfold pCmp at e
  split at e
  · cases e
    obtain ⟨x, y, rfl, h1, h2⟩ := g.two
    cases h1.int
    cases h2.int
    exact .inl ⟨_, _, rfl, rfl, q _ _ (prB s)⟩
  · cases e
    obtain ⟨x, y, rfl, h1, h2⟩ := g.two
    cases h1.str
    cases h2.str
    exact .inr ⟨_, _, rfl, rfl, q _ _ (prB s)⟩
  · cases e
theorem o_lt {X : Cx} : OpR X (compareOp .Lt) (rCmp (fun i j => decide (i < j)) fun x y => decide (x < y)) := OpR.or op_lt op_lt_str
theorem o_le {X : Cx} : OpR X (compareOp .LtE) (rCmp (fun i j => decide (i ≤ j)) fun x y => !decide (y < x)) := OpR.or op_le op_le_str
theorem o_gt {X : Cx} : OpR X (compareOp .Gt) (rCmp (fun i j => decide (j < i)) fun x y => decide (y < x)) := OpR.or op_gt op_gt_str
theorem o_ge {X : Cx} : OpR X (compareOp .GtE) (rCmp (fun i j => decide (j ≤ i)) fun x y => !decide (x < y)) := OpR.or op_ge op_ge_str

/-! ### in, is None -/
def rInS : R2 := fun x y H Q => ∃ (c : Nat) (z : Str), x = .str ⟨#[c]⟩ ∧ y = .str z ∧ Q (.bl (decide (c ∈ z.cps.toList))) H
def rInT : R2 := fun x y H Q => ∃ i j : Str, x = .str i ∧ y = .str j ∧ Q (.bl (!(Builtin.Str.occurrences j i 0 j.length 1).isEmpty)) H
def rInA (K : Frag) : R2 := fun x y H Q => rInS x y H Q ∨ rInT x y H Q ∨ rIn K false x y H Q
def rNinS : R2 := fun x y H Q => ∃ (c : Nat) (z : Str), x = .str ⟨#[c]⟩ ∧ y = .str z ∧ Q (.bl (!decide (c ∈ z.cps.toList))) H
def rNinT : R2 := fun x y H Q => ∃ i j : Str, x = .str i ∧ y = .str j ∧ Q (.bl (!(!(Builtin.Str.occurrences j i 0 j.length 1).isEmpty))) H
def rNinA (K : Frag) : R2 := fun x y H Q => rNinS x y H Q ∨ rNinT x y H Q ∨ rIn K true x y H Q
theorem o_in {X : Cx} : OpR X (compareOp .In) (rInA X.K) := OpR.or op_in_sign (OpR.or op_in_str op_in_seq)
theorem o_notin {X : Cx} : OpR X (compareOp .NotIn) (rNinA X.K) := OpR.or op_notIn_sign (OpR.or op_notin_str op_notIn_seq)
theorem flat_ok {d : PyData} {v : V} (h : isFlatD d = true) (q : Sh K G d v) : flatV v = true := by
  cases d <;> first
    | exact absurd (show false = true from h) Bool.false_ne_true
    | (simp only [Sh] at q
       rw [q]
       rfl)
theorem flats_ok : ∀ {ds : List PyData} {vs : List V}, ds.all isFlatD = true → ShL K G ds vs → vs.all flatV = true
  | [], vs, _, q => by
    simp only [ShL] at q
    rw [q]
    rfl
  | d :: ds, vs, h, q => by
    simp only [ShL] at q
    obtain ⟨v, r, rfl, q1, q2⟩ := q
    simp only [List.all_cons, Bool.and_eq_true] at h ⊢
    exact ⟨flat_ok h.1 q1, flats_ok h.2 q2⟩
theorem eqV_ok {d e : PyData} {x y : V} (h : scalD e d = true) (h1 : Sh K G d x) (h2 : Sh K G e y) : eqV x y = PyData.eqv d e := by
  cases d <;> cases e <;> first
    | exact absurd (show false = true from h) Bool.false_ne_true
    | (simp only [Sh] at h1 h2
       subst h1 h2
       simp [PyData.eqv, eqV])
theorem inV_ok {e : PyData} {y : V} (h2 : Sh K G e y) : ∀ {ds : List PyData} {vs : List V}, ds.all (scalD e) = true → ShL K G ds vs → inV y vs = ds.any fun d => PyData.eqv d e
  | [], vs, _, q => by
    simp only [ShL] at q
    rw [q]
    rfl
  | d :: ds, vs, h, q => by
    simp only [ShL] at q
    obtain ⟨v, r, rfl, q1, q2⟩ := q
    simp only [List.all_cons, Bool.and_eq_true] at h
    have ih := inV_ok h2 h.2 q2
    unfold inV at ih ⊢
    rw [List.any_cons, List.any_cons, ih, eqV_ok h.1 q1 h2]
theorem isFlat_sh {a : O} (h : isFlatD a.d = true) : ∃ d, a = .sh d := by
  cases a with
  | sh d => exact ⟨d, rfl⟩
  | _ => exact absurd (show false = true from h) Bool.false_ne_true
theorem in_in {os : List O} {b : Bool} (e : pIn os = some b) {vs : List V} (s : Sub G H) (g : FoL K G H os vs) :
    ∃ x y, vs = [x, y] ∧ ((∃ (c : Nat) (z : Str), x = .str ⟨#[c]⟩ ∧ y = .str z ∧ decide (c ∈ z.cps.toList) = b) ∨ (∃ i j : Str, x = .str i ∧ y = .str j ∧ (!(Builtin.Str.occurrences j i 0 j.length 1).isEmpty) = b) ∨
      ∃ p xs, y = .ref p ∧ (SqL K H p xs ∨ SqT K H p xs) ∧ flatV x = true ∧ xs.all flatV = true ∧ inV x xs = b) := by
  unfold pIn at e
  split at e
  · rename_i x y
    obtain ⟨v, w, rfl, h1, h2⟩ := g.two
    cases h1.str
    cases h2.str
    refine ⟨_, _, rfl, ?_⟩
    split at e
    · rename_i c hc
      cases e
      refine .inl ⟨c, y, ?_, rfl, rfl⟩
      congr 1
      exact Str.ext' (Array.toList_inj.mp hc)
    · cases e
      exact .inr (.inl ⟨x, y, rfl, rfl, rfl⟩)
  · rename_i a c _
    obtain ⟨v, w, rfl, h1, h2⟩ := g.two
    refine ⟨_, _, rfl, ?_⟩
    split at e
    · rename_i ys e1
      obtain ⟨hc, rfl⟩ := gd_some e
      simp only [Bool.and_eq_true] at hc
      obtain ⟨d, rfl⟩ := isFlat_sh hc.1.1
      obtain ⟨p, xs, rfl, hp, hq⟩ := Fo.seq e1 s h2
      exact .inr (.inr ⟨p, xs, rfl, hp, flat_ok hc.1.1 h1, flats_ok hc.1.2 hq, inV_ok h1 hc.2 hq⟩)
    · cases e
  · cases e
theorem p_in : PrimOk K (r2L (rInA K)) (prim .isin) := by
  intro os o e G H vs Q s g q
  change (pIn os).map shB = some o at e
  simp only [Option.map_eq_some_iff] at e
  obtain ⟨b, e, rfl⟩ := e
  obtain ⟨x, y, rfl, ⟨c, z, h1, h2, h3⟩ | ⟨i, j, h1, h2, h3⟩ | ⟨p, xs, h1, h2, h3, h4, h5⟩⟩ := in_in e s g
  · exact .inl ⟨c, z, h1, h2, by rw [h3]; exact q _ _ (prB s)⟩
  · exact .inr (.inl ⟨i, j, h1, h2, by rw [h3]; exact q _ _ (prB s)⟩)
  · exact .inr (.inr ⟨p, xs, h1, h2, h3, h4, by rw [h5]; exact q _ _ (prB s)⟩)
theorem p_notin : PrimOk K (r2L (rNinA K)) (prim .notin) := by
  intro os o e G H vs Q s g q
  change (pIn os).map (fun b => shB !b) = some o at e
  simp only [Option.map_eq_some_iff] at e
  obtain ⟨b, e, rfl⟩ := e
  obtain ⟨x, y, rfl, ⟨c, z, h1, h2, h3⟩ | ⟨i, j, h1, h2, h3⟩ | ⟨p, xs, h1, h2, h3, h4, h5⟩⟩ := in_in e s g
  · exact .inl ⟨c, z, h1, h2, by rw [h3]; exact q _ _ (prB s)⟩
  · exact .inr (.inl ⟨i, j, h1, h2, by rw [h3]; exact q _ _ (prB s)⟩)
  · exact .inr (.inr ⟨p, xs, h1, h2, h3, h4, by rw [h5]; exact q _ _ (prB s)⟩)
theorem isNon_ok {a : O} {x : V} (h : Fo K G H a x) : decide (x = .non) = isNon a := by
  cases a with
  | sh d =>
    cases d <;> (simp only [Fo, Sh] at h)
    case none => subst h; rfl
    case bool => subst h; rfl
    case int => subst h; rfl
    case str => subst h; rfl
    all_goals
      obtain ⟨a, vs, rfl, _⟩ := h
      rfl
  | ol os =>
    obtain ⟨a, vs, ds, rfl, _⟩ := h
    rfl
  | ot os =>
    obtain ⟨a, vs, ds, rfl, _⟩ := h
    rfl
  | od os =>
    obtain ⟨a, vs, ds, rfl, _⟩ := h
    rfl
def rIsN : R2 := fun x y H Q => y = .non ∧ Q (.bl (decide (x = .non))) H
def rNotN : R2 := fun x y H Q => y = .non ∧ Q (.bl (!decide (x = .non))) H
theorem p_isnone : PrimOk K (r1L fun x H Q => rIsN x .non H Q) (prim .isnone) := r1_u1 fun a o e G H x Q s h q => by
  cases e
  exact ⟨rfl, by rw [isNon_ok h]; exact q _ _ (prB s)⟩
theorem p_notnone : PrimOk K (r1L fun x H Q => rNotN x .non H Q) (prim .notnone) := r1_u1 fun a o e G H x Q s h q => by
  cases e
  exact ⟨rfl, by rw [isNon_ok h]; exact q _ _ (prB s)⟩
/-- truth -/
theorem tru_in {a : O} {b : Bool} (e : truth a = some b) {x : V} (s : Sub G H) (h : Fo K G H a x) : TruV K x H b := by
  cases a with
  | sh d =>
    cases d <;> simp only [truth] at e <;> simp only [Fo, Sh] at h
    case none => cases e; subst h; rfl
    case bool => cases e; subst h; rfl
    case int => cases e; subst h; rfl
    case str => obtain ⟨c, rfl⟩ := gd_some e; subst h; exact ⟨of_decide_eq_true c, rfl⟩
    case list =>
      cases e
      obtain ⟨a, vs, rfl, h1, h2⟩ := h
      exact .inl ⟨vs, .of (s _ _ h1), by rw [h2.nil_iff]⟩
    case tuple =>
      cases e
      obtain ⟨a, vs, rfl, h1, h2⟩ := h
      exact .inr (.inl ⟨vs, s.sqT h1, by rw [h2.nil_iff]⟩)
    case dict kvs =>
      cases e
      obtain ⟨a, xs, rfl, h1, h2⟩ := h
      refine .inr (.inr ⟨xs, s _ _ h1, ?_⟩)
      cases kvs with
      | nil =>
        simp only [ShD] at h2
        rw [h2]
        rfl
      | cons p r =>
        obtain ⟨k, d⟩ := p
        simp only [ShD] at h2
        obtain ⟨_, _, _, rfl, _⟩ := h2
        rfl
  | ol os =>
    obtain ⟨a, vs, ds, rfl, h1, h2, h3⟩ := h
    cases e
    refine .inl ⟨vs, .of h1, ?_⟩
    rw [← h3.nil_iff, ← allSh_dL h2]
    cases os <;> simp [O.dL]
  | ot os =>
    obtain ⟨a, vs, ds, rfl, h1, h2, h3⟩ := h
    cases e
    refine .inr (.inl ⟨vs, .of h1, ?_⟩)
    rw [← h3.nil_iff, ← allSh_dL h2]
    cases os <;> simp [O.dL]
  | od kvs =>
    obtain ⟨a, xs, ds, rfl, h1, h2, h3⟩ := h
    cases e
    refine .inr (.inr ⟨xs, h1, ?_⟩)
    cases kvs with
    | nil =>
      simp only [allShK] at h2
      cases h2
      simp only [ShK] at h3
      rw [h3]
      rfl
    | cons p r =>
      obtain ⟨k, o⟩ := p
      cases o <;> simp only [allShK] at h2
      case sh d =>
        simp only [Option.map_eq_some_iff] at h2
        obtain ⟨z, _, rfl⟩ := h2
        simp only [ShK] at h3
        obtain ⟨_, _, rfl, _⟩ := h3
        rfl
      all_goals cases h2
end
end Qv
end
section
set_option Elab.async false
set_option linter.all false
set_option maxRecDepth 100000
set_option maxHeartbeats 1000000
/-! Q5: further operations. -/
namespace Qv
open PySem PySem.Spec PyProof.Rows L2
section
variable {K : Frag} {G H : Hp}

/-! ### items, slices -/
theorem atI_ok {ds : List PyData} {vs : List V} {i : Int} {d : PyData} (h : ShL K G ds vs) (e : atI ds i = some d) : ∃ v, atI vs i = some v ∧ Sh K G d v := by
  unfold atI at e ⊢
  rw [← h.len]
  cases q : ixN ds.length i with
  | none =>
    rw [q] at e
    cases e
  | some j =>
    rw [q] at e
    exact h.get e
theorem p_item : PrimOk K (r2L (rIx K)) (prim .item) := by
  intro os o e G H vs Q s g q
  change pItem os = some o at e
  unfold pItem at e
  split at e
  · rename_i z i
    obtain ⟨x, y, rfl, h1, h2⟩ := g.two
    cases h1.str
    cases h2.int
    split at e
    · rename_i hz
      simp only [Option.map_eq_some_iff] at e
      obtain ⟨c, e, rfl⟩ := e
      exact .inr (.inr ⟨z, i, c, rfl, rfl, hz, e, q _ _ (prS s)⟩)
    · cases e
  · rename_i a i _
    obtain ⟨x, y, rfl, h1, h2⟩ := g.two
    cases h2.int
    split at e
    · rename_i ds e1
      simp only [Option.map_eq_some_iff] at e
      obtain ⟨d, e, rfl⟩ := e
      obtain ⟨p, xs, rfl, hp, hq⟩ := Fo.seq e1 s h1
      obtain ⟨v, hv, sv⟩ := atI_ok hq e
      rcases hp with hp | hp
      · exact .inl ⟨p, xs, i, v, rfl, rfl, hp, hv, q _ _ (Pr.same s sv)⟩
      · exact .inr (.inl ⟨p, xs, i, v, rfl, rfl, hp, hv, q _ _ (Pr.same s sv)⟩)
    · cases e
  · cases e
theorem cut_ok {ds : List PyData} {vs : List V} (lo hi : Option Int) (h : ShL K G ds vs) : ShL K G (cutD ds lo hi) (cutV vs lo hi) := by
  unfold cutD cutV
  rw [← h.len]
  exact (h.drop _).take _
def rCutA (K : Frag) : V → Option Int → Option Int → Hp → VK → Prop := fun x lo hi H Q => rSlS x lo hi H Q ∨ rSlA K x lo hi H Q ∨ rSlL K x lo hi H Q
theorem o_cut {X : Cx} : SlR X (rCutA X.K) := SlR.or sl_str (SlR.or sl_tupA sl_list)
theorem full_cut {ds : List PyData} {lo hi : Option Int} (h : HT.sIx ds.length 0 lo = 0 ∧ HT.sIx ds.length ds.length hi = ds.length) : cutD ds lo hi = ds := by
  unfold cutD
  rw [h.1, h.2]
  simp
theorem p_cut {a o : O} {lo hi : Option Int} (e : pCut a lo hi = some o) {x : V} {Q : VK} (s : Sub G H) (h : Fo K G H a x) (q : ∀ v H', Pr K G H o v H' → Q v H') : rCutA K x lo hi H Q := by
  unfold pCut at e
  split at e
  · obtain ⟨c, rfl⟩ := gd_some e
    cases h.str
    exact .inl ⟨_, rfl, of_decide_eq_true c, q _ _ (prS s)⟩
  · rename_i ds
    cases e
    obtain ⟨p, xs, rfl, hp, hq⟩ := Fo.tup (ds := ds) rfl s h
    refine .inr (.inl ⟨p, xs, rfl, hp, fun z => ?_, fun z p hp => q _ _ (Pr.tup s hp (cut_ok lo hi hq))⟩)
    rw [full_cut (by rw [hq.len]; exact z)] at q
    exact q _ _ (Pr.same s h)
  · split at e
    · rename_i ds e1
      cases e
      obtain ⟨p, xs, rfl, hp, hq⟩ := Fo.list e1 s h
      exact .inr (.inr ⟨p, xs, rfl, .of hp, fun p hp => q _ _ (Pr.lst hp (cut_ok lo hi hq))⟩)
    · cases e
theorem p_back : PrimOk K (r1L fun x H Q => ∃ a xs, x = .ref a ∧ SqL K H a xs ∧ ∀ p, H p = none → Q (.ref p) (upd H p (.lst xs.reverse))) (prim .back) := r1_u1 fun a o e G H x Q s h q => by
  simp only [Option.map_eq_some_iff] at e
  obtain ⟨ds, e, rfl⟩ := e
  obtain ⟨p, xs, rfl, hp, hq⟩ := Fo.list e s h
  exact ⟨p, xs, rfl, .of hp, fun p hp => q _ _ (Pr.lst hp hq.reverse)⟩

/-! ### built-in functions -/
theorem p_len : PrimOk K (fun xs H Q => (∃ x n, xs = [x] ∧ LenV K x H n ∧ Q (.int n) H) ∨ ∃ a kvs, xs = [V.ref a] ∧ H a = some (.dK kvs) ∧ Q (.int kvs.length) H) (prim .len) := by
  intro os o e G H vs Q s g q
  change u1 _ os = some o at e
  unfold u1 at e
  split at e
  · obtain ⟨x, rfl, h1⟩ := g.one
    unfold pLen at e
    split at e
    · obtain ⟨c, rfl⟩ := gd_some e
      cases h1.str
      exact .inl ⟨_, _, rfl, ⟨of_decide_eq_true c, rfl⟩, q _ _ (prI s)⟩
    · cases e
      obtain ⟨a, xs, ds, rfl, h2, h3, h4⟩ := h1
      refine .inr ⟨a, xs, rfl, h2, ?_⟩
      have hl : ∀ {kvs : List (Key × O)} {ds : List (Key × PyData)} {xs : List (Key × V)}, allShK kvs = some ds → ShK K G ds xs → kvs.length = xs.length := by
        intro kvs
        induction kvs with
        | nil =>
          intro ds xs e1 e2
          simp only [allShK] at e1
          cases e1
          simp only [ShK] at e2
          rw [e2]
          rfl
        | cons p r ih =>
          intro ds xs e1 e2
          obtain ⟨k, o⟩ := p
          cases o <;> simp only [allShK] at e1
          case sh d =>
            simp only [Option.map_eq_some_iff] at e1
            obtain ⟨z, e1, rfl⟩ := e1
            simp only [ShK] at e2
            obtain ⟨v, t, rfl, _, e2⟩ := e2
            rw [List.length_cons, List.length_cons, ih e1 e2]
          all_goals cases e1
      rw [← hl h3 h4]
      exact q _ _ (prI s)
    · cases e
      simp only [Fo, Sh] at h1
      obtain ⟨a, xs, rfl, h2, h3⟩ := h1
      refine .inr ⟨a, xs, rfl, s _ _ h2, ?_⟩
      have hl : ∀ {kvs : List (PyData × PyData)} {xs : List (Key × V)}, ShD K G kvs xs → kvs.length = xs.length := by
        intro kvs
        induction kvs with
        | nil =>
          intro xs e2
          simp only [ShD] at e2
          rw [e2]
          rfl
        | cons p r ih =>
          intro xs e2
          obtain ⟨k, o⟩ := p
          simp only [ShD] at e2
          obtain ⟨_, v, t, rfl, _, _, e2⟩ := e2
          rw [List.length_cons, List.length_cons, ih e2]
      rw [← hl h3]
      exact q _ _ (prI s)
    · simp only [Option.map_eq_some_iff] at e
      obtain ⟨ds, e, rfl⟩ := e
      obtain ⟨p, xs, rfl, hp, hq⟩ := Fo.seq e s h1
      refine .inl ⟨_, ds.length, rfl, ?_, q _ _ (prI s)⟩
      rcases hp with hp | hp
      · exact .inl ⟨xs, hp, hq.len⟩
      · exact .inr ⟨xs, hp, hq.len⟩
  · cases e
theorem o_len {X : Cx} : CallR X (.builtin "len") (fun xs H Q => (∃ x n, xs = [x] ∧ LenV X.K x H n ∧ Q (.int n) H) ∨ ∃ a kvs, xs = [V.ref a] ∧ H a = some (.dK kvs) ∧ Q (.int kvs.length) H) := CallR.or call_len call_lenD
theorem p_tuple : PrimOk K (fun xs H Q => (∃ p ys, xs = [.ref p] ∧ ((SqL K H p ys ∧ ∀ l, H l = none → Q (.ref l) (upd H l (.tup ys))) ∨ (SqT K H p ys ∧ Q (.ref p) H)))) (prim .tuple1) := by
  intro os o e G H vs Q s g q
  change u1 _ os = some o at e
  unfold u1 at e
  split at e
  · obtain ⟨x, rfl, h1⟩ := g.one
    unfold pTuple at e
    split at e
    · rename_i ds e1
      cases e
      obtain ⟨p, xs, rfl, hp, hq⟩ := Fo.list e1 s h1
      exact ⟨p, xs, rfl, .inl ⟨.of hp, fun l hl => q _ _ (Pr.tup s hl hq)⟩⟩
    · split at e
      · rename_i ds _
        cases e
        obtain ⟨p, xs, rfl, hp, hq⟩ := Fo.tup (ds := ds) rfl s h1
        exact ⟨p, xs, rfl, .inr ⟨hp, q _ _ (Pr.same s h1)⟩⟩
      · cases e
  · cases e
theorem p_list : PrimOk K (fun xs H Q => ∃ p ys, xs = [.ref p] ∧ (SqL K H p ys ∨ SqT K H p ys) ∧ ∀ l, H l = none → Q (.ref l) (upd H l (.lst ys))) (prim .list1) := by
  intro os o e G H vs Q s g q
  change u1 _ os = some o at e
  unfold u1 at e
  split at e
  · obtain ⟨x, rfl, h1⟩ := g.one
    simp only [Option.map_eq_some_iff] at e
    obtain ⟨ds, e, rfl⟩ := e
    obtain ⟨p, xs, rfl, hp, hq⟩ := Fo.seq e s h1
    exact ⟨p, xs, rfl, hp, fun l hl => q _ _ (Pr.lst hl hq)⟩
  · cases e
theorem allBl_ok : ∀ {ds : List PyData} {bs : List Bool} {vs : List V}, allBl ds = some bs → ShL K G ds vs → vs = bs.map V.bl
  | [], bs, vs, e, h => by
    simp only [allBl] at e
    cases e
    simp only [ShL] at h
    rw [h]
    rfl
  | .bool b :: ds, bs, vs, e, h => by
    simp only [allBl, Option.map_eq_some_iff] at e
    obtain ⟨cs, e, rfl⟩ := e
    simp only [ShL, Sh] at h
    obtain ⟨v, r, rfl, rfl, h⟩ := h
    rw [allBl_ok e h]
    rfl
  | .none :: _, _, _, e, _ => by simp only [allBl] at e; cases e
  | .int _ :: _, _, _, e, _ => by simp only [allBl] at e; cases e
  | .str _ :: _, _, _, e, _ => by simp only [allBl] at e; cases e
  | .list _ :: _, _, _, e, _ => by simp only [allBl] at e; cases e
  | .tuple _ :: _, _, _, e, _ => by simp only [allBl] at e; cases e
  | .dict _ :: _, _, _, e, _ => by simp only [allBl] at e; cases e
theorem allIn_ok : ∀ {ds : List PyData} {bs : List Int} {vs : List V}, allIn ds = some bs → ShL K G ds vs → vs = bs.map V.int
  | [], bs, vs, e, h => by
    simp only [allIn] at e
    cases e
    simp only [ShL] at h
    rw [h]
    rfl
  | .int b :: ds, bs, vs, e, h => by
    simp only [allIn, Option.map_eq_some_iff] at e
    obtain ⟨cs, e, rfl⟩ := e
    simp only [ShL, Sh] at h
    obtain ⟨v, r, rfl, rfl, h⟩ := h
    rw [allIn_ok e h]
    rfl
  | .none :: _, _, _, e, _ => by simp only [allIn] at e; cases e
  | .bool _ :: _, _, _, e, _ => by simp only [allIn] at e; cases e
  | .str _ :: _, _, _, e, _ => by simp only [allIn] at e; cases e
  | .list _ :: _, _, _, e, _ => by simp only [allIn] at e; cases e
  | .tuple _ :: _, _, _, e, _ => by simp only [allIn] at e; cases e
  | .dict _ :: _, _, _, e, _ => by simp only [allIn] at e; cases e
theorem allSt_ok : ∀ {ds : List PyData} {bs : List Str} {vs : List V}, allSt ds = some bs → ShL K G ds vs → vs = bs.map V.str
  | [], bs, vs, e, h => by
    simp only [allSt] at e
    cases e
    simp only [ShL] at h
    rw [h]
    rfl
  | .str b :: ds, bs, vs, e, h => by
    simp only [allSt, Option.map_eq_some_iff] at e
    obtain ⟨cs, e, rfl⟩ := e
    simp only [ShL, Sh] at h
    obtain ⟨v, r, rfl, rfl, h⟩ := h
    rw [allSt_ok e h]
    rfl
  | .none :: _, _, _, e, _ => by simp only [allSt] at e; cases e
  | .bool _ :: _, _, _, e, _ => by simp only [allSt] at e; cases e
  | .int _ :: _, _, _, e, _ => by simp only [allSt] at e; cases e
  | .list _ :: _, _, _, e, _ => by simp only [allSt] at e; cases e
  | .tuple _ :: _, _, _, e, _ => by simp only [allSt] at e; cases e
  | .dict _ :: _, _, _, e, _ => by simp only [allSt] at e; cases e
theorem p_sum : PrimOk K (rSum K) (prim .sum) := by
  intro os o e G H vs Q s g q
  change u1 _ os = some o at e
  unfold u1 at e
  split at e
  · obtain ⟨x, rfl, h1⟩ := g.one
    unfold pSum at e
    split at e
    · rename_i ds e1
      simp only [Option.map_eq_some_iff] at e
      obtain ⟨ns, e, rfl⟩ := e
      obtain ⟨p, xs, rfl, hp, hq⟩ := Fo.list e1 s h1
      cases allIn_ok e hq
      exact ⟨p, ns, rfl, .of hp, q _ _ (prI s)⟩
    · cases e
  · cases e
theorem p_all : PrimOk K (rAll K) (prim .all) := by
  intro os o e G H vs Q s g q
  change u1 _ os = some o at e
  unfold u1 at e
  split at e
  · obtain ⟨x, rfl, h1⟩ := g.one
    unfold pAll at e
    split at e
    · rename_i ds e1
      simp only [Option.map_eq_some_iff] at e
      obtain ⟨ns, e, rfl⟩ := e
      obtain ⟨p, xs, rfl, hp, hq⟩ := Fo.list e1 s h1
      cases allBl_ok e hq
      exact ⟨p, ns, rfl, .of hp, q _ _ (prB s)⟩
    · cases e
  · cases e
theorem p_any : PrimOk K (rAny K) (prim .any) := by
  intro os o e G H vs Q s g q
  change u1 _ os = some o at e
  unfold u1 at e
  split at e
  · obtain ⟨x, rfl, h1⟩ := g.one
    unfold pAny at e
    split at e
    · rename_i ds e1
      simp only [Option.map_eq_some_iff] at e
      obtain ⟨ns, e, rfl⟩ := e
      obtain ⟨p, xs, rfl, hp, hq⟩ := Fo.list e1 s h1
      cases allBl_ok e hq
      exact ⟨p, ns, rfl, .of hp, q _ _ (prB s)⟩
    · cases e
  · cases e

/-! ### repr -/
mutual
theorem Sh.dpN (s : Sub G H) : ∀ (d : PyData) (v : V), d.hasDict = false → Sh K G d v → Dp K H v d
  | .none, v, _, h => by
    simp only [Sh] at h
    rw [h]
    exact .non
  | .bool b, v, _, h => by
    simp only [Sh] at h
    rw [h]
    exact .bl b
  | .int i, v, _, h => by
    simp only [Sh] at h
    rw [h]
    exact .int i
  | .str x, v, _, h => by
    simp only [Sh] at h
    rw [h]
    exact .str x
  | .list ds, v, c, h => by
    simp only [Sh] at h
    simp only [PyData.hasDict] at c
    obtain ⟨a, vs, rfl, h1, h2⟩ := h
    exact .lst (.of (s _ _ h1)) (ShL.dpN s ds vs c h2)
  | .tuple ds, v, c, h => by
    simp only [Sh] at h
    simp only [PyData.hasDict] at c
    obtain ⟨a, vs, rfl, h1, h2⟩ := h
    exact .tup (s.sqT h1) (ShL.dpN s ds vs c h2)
  | .dict _, _, c, _ => by
    simp only [PyData.hasDict] at c
    cases c
theorem ShL.dpN (s : Sub G H) : ∀ (ds : List PyData) (vs : List V), PyData.hasDictAll ds = false → ShL K G ds vs → DpAll K H vs ds
  | [], vs, _, h => by
    simp only [ShL] at h
    rw [h]
    exact .nil
  | d :: ds, vs, c, h => by
    simp only [ShL] at h
    obtain ⟨v, r, rfl, h1, h2⟩ := h
    simp only [PyData.hasDictAll, Bool.or_eq_false_iff] at c
    exact .cons (Sh.dpN s d v c.1 h1) (ShL.dpN s ds r c.2 h2)
end
theorem Fo.dpN (s : Sub G H) {o : O} {v : V} (c : o.d.hasDict = false) (h : Fo K G H o v) : Dp K H v o.d := by
  cases o with
  | sh d => exact Sh.dpN s d v c h
  | ol os =>
    obtain ⟨a, vs, ds, rfl, h1, h2, h3⟩ := h
    simp only [O.d, allSh_dL h2, PyData.hasDict] at c ⊢
    exact .lst (.of h1) (ShL.dpN s ds vs c h3)
  | ot os =>
    obtain ⟨a, vs, ds, rfl, h1, h2, h3⟩ := h
    simp only [O.d, allSh_dL h2, PyData.hasDict] at c ⊢
    exact .tup (.of h1) (ShL.dpN s ds vs c h3)
  | od os =>
    simp only [O.d, PyData.hasDict] at c
    cases c
def rRepr (K : Frag) : List V → Hp → VK → Prop := fun vs H Q => ∃ x d, vs = [x] ∧ Dp K H x d ∧ d.showable = true ∧ d.hasDict = false ∧ d.shown.length ≤ sizeLine ∧ d.depth ≤ 60 ∧ Q (.str d.shown) H
theorem o_repr {X : Cx} (hg : X.A.guards = some []) (hu : X.A.units + 64 < cLine) : CallR X (.builtin "repr") (rRepr X.K) := by
  intro pins s σ H xs us Q I r h
  obtain ⟨x, d, rfl, hd, hs, hn, hz, hp, q⟩ := h
  obtain ⟨u, rfl, ru⟩ := r.one
  have fin : ∀ (s' : Shared) (t : Tok), Inv X pins σ H s' → EP X pins σ Q (.str d.shown t) s' := fun s' t I' => ⟨.str d.shown, H, I', ⟨t, rfl⟩, q⟩
  have big : ∀ (a : Addr) (as : List Addr), u = .ref a → Reads s.heap (.ref a) d as → wpAny (model X.prog X.w) X.A (call (.builtin "repr") [u]) (EP X pins σ Q) X.xe s := by
    intro a as e rr
    subst e
    refine repr_of_reads' rr hs (fun z => ?_) hg (by omega) (fun _ _ z => z) (fun h' u tk k => fin _ _ (I.kept k)) hz
    rw [hn] at z
    cases z
  cases d with
  | none =>
    cases hd
    cases ru
    exact PySem.P.repr_of_none (fin _ _ (I.tok _))
  | bool b =>
    cases hd
    cases ru
    exact PySem.P.repr_of_bool (fin _ _ (I.tok _))
  | int i =>
    cases hd
    obtain ⟨t, rfl⟩ := ru
    refine PySem.P.repr_of_int ?_ (fin _ _ (I.tok _))
    simp only [PyData.showable] at hs
    exact of_decide_eq_true hs
  | str z =>
    cases hd
    obtain ⟨t, rfl⟩ := ru
    exact PySem.P.repr_of_str (fin _ _ (I.tok _)) hz
  | list ds =>
    obtain ⟨as, hr⟩ := Dp.reads I _ x u hd ru
    cases hd
    cases ru
    exact big _ as rfl hr
  | tuple ds =>
    obtain ⟨as, hr⟩ := Dp.reads I _ x u hd ru
    cases hd
    cases ru
    exact big _ as rfl hr
  | dict _ =>
    simp only [PyData.hasDict] at hn
    cases hn
theorem p_repr : PrimOk K (rRepr K) (prim .repr) := by
  intro os o e G H vs Q s g q
  change u1 _ os = some o at e
  unfold u1 at e
  split at e
  · obtain ⟨x, rfl, h1⟩ := g.one
    obtain ⟨c, rfl⟩ := gd_some e
    simp only [Bool.and_eq_true, Bool.not_eq_true', decide_eq_true_eq] at c
    exact ⟨x, _, rfl, Fo.dpN s c.1.1.2 h1, c.1.1.1, c.1.1.2, c.1.2, c.2, q _ _ (prS s)⟩
  · cases e

/-- repr of a row that is written down for it: its parts are only looked at -/
theorem Fo.up {H' : Hp} (z : Sub H H') {o : O} {v : V} (h : Fo K G H o v) : Fo K G H' o v := by
  cases o with
  | sh d => exact h
  | ol os =>
    obtain ⟨a, vs, ds, e, h1, h2, h3⟩ := h
    exact ⟨a, vs, ds, e, z _ _ h1, h2, h3⟩
  | ot os =>
    obtain ⟨a, vs, ds, e, h1, h2, h3⟩ := h
    exact ⟨a, vs, ds, e, z _ _ h1, h2, h3⟩
  | od os =>
    obtain ⟨a, vs, ds, e, h1, h2, h3⟩ := h
    exact ⟨a, vs, ds, e, z _ _ h1, h2, h3⟩
theorem FoL.dpN (s : Sub G H) : ∀ {os : List O} {vs : List V}, PyData.hasDictAll (O.dL os) = false → FoL K G H os vs → DpAll K H vs (O.dL os)
  | [], vs, _, h => by
    cases (show vs = [] from h)
    simp only [O.dL]
    exact .nil
  | o :: os, vs, c, h => by
    obtain ⟨v, r, rfl, h1, h2⟩ := h
    simp only [O.dL, PyData.hasDictAll, Bool.or_eq_false_iff] at c ⊢
    exact .cons (Fo.dpN s c.1 h1) (FoL.dpN s c.2 h2)
theorem FoL.up {H' : Hp} (z : Sub H H') : ∀ {os : List O} {vs : List V}, FoL K G H os vs → FoL K G H' os vs
  | [], vs, h => h
  | o :: os, vs, h => by
    obtain ⟨v, r, e, h1, h2⟩ := h
    exact ⟨v, r, e, h1.up z, FoL.up z h2⟩
theorem FoL.len : ∀ {os : List O} {vs : List V}, FoL K G H os vs → vs.length = os.length
  | [], vs, h => by
    cases (show vs = [] from h)
    rfl
  | o :: os, vs, h => by
    obtain ⟨v, r, rfl, h1, h2⟩ := h
    rw [List.length_cons, List.length_cons, FoL.len h2]
def rReprL (K : Frag) : List V → Hp → VK → Prop := fun vs H Q => vs.length ≤ sizeLine ∧ ∀ p, H p = none → rRepr K [.ref p] (upd H p (.lst vs)) Q
theorem p_reprl : PrimOk K (rReprL K) (prim .reprl) := by
  intro os o e G H vs Q s g q
  change pReprL os = some o at e
  unfold pReprL at e
  split at e
  · rename_i hl
    obtain ⟨c, rfl⟩ := gd_some e
    simp only [Bool.and_eq_true, Bool.not_eq_true', decide_eq_true_eq] at c
    refine ⟨by rw [g.len]; exact hl, fun p hp => ?_⟩
    have su : Sub H (upd H p (.lst vs)) := Sub.upd (.refl H) hp
    have c2 := c.1.1.2
    simp only [O.d, PyData.hasDict] at c2
    refine ⟨.ref p, _, rfl, ?_, c.1.1.1, c.1.1.2, c.1.2, c.2, q _ _ ⟨G, .refl G, s.trans su, su, by simp only [Sh], fun _ _ _ => rfl⟩⟩
    exact .lst (.of upd_same) (FoL.dpN (s.trans su) c2 (g.up su))
  · cases e

/-! ### isinstance -/
def tyN : PyData → String
  | .none => "NoneType"
  | .bool _ => "bool"
  | .int _ => "int"
  | .str _ => "str"
  | .list _ => "list"
  | .tuple _ => "tuple"
  | .dict _ => "dict"
def isTys : List String := ["int", "bool", "str", "list", "tuple", "dict"]
theorem isT_dom {d : PyData} {t : String} {b : Bool} (h : isT d t = some b) : t ∈ isTys := by
  unfold isT at h
  split at h <;> first | (simp [isTys]; done) | cases h
theorem kit_isT {d : PyData} {t : String} {b : Bool} (h : isT d t = some b) : kitB (tyN d) t = some b := by
  have m := isT_dom h
  simp only [isTys, List.mem_cons, List.not_mem_nil, or_false] at m
  rcases m with rfl | rfl | rfl | rfl | rfl | rfl <;> (cases d <;> (simp only [isT, Option.some.injEq] at h; subst h; simp only [tyN]; decide +kernel))
theorem tyx_ok {o : O} {x : V} (s : Sub G H) (h : Fo K G H o x) : TyX K H x (.type (tyN o.d)) := by
  cases o with
  | sh d =>
    cases d <;> simp only [Fo, Sh] at h
    case none => subst h; exact .base .non
    case bool => subst h; exact .base (.bl _)
    case int => subst h; exact .base (.int _)
    case str => subst h; exact .base (.str _)
    case list =>
      obtain ⟨a, vs, rfl, h1, _⟩ := h
      exact .base (.lst (s _ _ h1))
    case tuple =>
      obtain ⟨a, vs, rfl, h1, _⟩ := h
      rcases s.sqT h1 with (h1 | ⟨ob, h1⟩) | ⟨ob, _, _, h1, h2, _⟩
      · exact .base (.tup h1)
      · exact .fTuple h1
      · exact .kTuple h1 h2
    case dict =>
      obtain ⟨a, vs, rfl, h1, _⟩ := h
      exact .base (.dK (s _ _ h1))
  | ol os =>
    obtain ⟨a, vs, ds, rfl, h1, _⟩ := h
    exact .base (.lst h1)
  | ot os =>
    obtain ⟨a, vs, ds, rfl, h1, _⟩ := h
    exact .base (.tup h1)
  | od os =>
    obtain ⟨a, vs, ds, rfl, h1, _⟩ := h
    exact .base (.dK h1)
theorem TyX.keep {H' : Hp} {x : V} {n : String} (s : Sub H H') (h : TyX K H x (.type n)) : TyX K H' x (.type n) := by
  generalize hu : (Value.type n) = u at h
  cases h with
  | base b =>
    cases b with
    | non => exact .base .non
    | bl y => exact .base (.bl y)
    | int y => exact .base (.int y)
    | str y => exact .base (.str y)
    | flt y => exact .base (.flt y)
    | lst e => exact .base (.lst (s _ _ e))
    | frz e => exact .base (.frz (s _ _ e))
    | tup e => exact .base (.tup (s _ _ e))
    | dK e => exact .base (.dK (s _ _ e))
    | dT e => exact .base (.dT (s _ _ e))
    | ins => cases hu
  | byt b => exact .byt b
  | set e => exact .set (s _ _ e)
  | kList e c => exact .kList e c
  | kTuple e c => exact .kTuple e c
  | kDict e c => exact .kDict e c
  | fTuple e => exact .fTuple (s _ _ e)
  | fDict e => exact .fDict (s _ _ e)
theorem p_isi1 (n : String) : PrimOk K (r1L fun x H Q => rIsi K [x, .ty n] H Q) (prim (.isinst [n])) := r1_u1 fun a o e G H x Q s h q => by
  simp only [Option.map_eq_some_iff, isAny] at e
  obtain ⟨b, e, rfl⟩ := e
  split at e
  · rename_i p p2 e1 e2
    cases e2
    cases e
    rw [Bool.or_false] at q
    exact ⟨x, .ty n, _, _, p, rfl, .ty n, tyx_ok s h, kit_ty (kit_isT e1), q _ _ (prB s)⟩
  · cases e
theorem isAny_kit {d : PyData} : ∀ {ts : List String} {b : Bool}, isAny d ts = some b → PySem.W.kitAny K (.type (tyN d)) (ts.map Value.type) = some b
  | [], b, h => by
    simp only [isAny] at h
    cases h
    exact kitAny_nil
  | t :: ts, b, h => by
    simp only [isAny] at h
    split at h
    · rename_i p p2 e1 e2
      cases h
      refine kitAny_cons (kit_ty (kit_isT e1)) (fun z => ?_) (fun z => ?_)
      · rw [z, Bool.false_or]
        exact isAny_kit e2
      · rw [z, Bool.true_or]
    · cases h
theorem clsV_all : ∀ ts : List String, Paired ClsV (ts.map V.ty) (ts.map Value.type)
  | [] => .nil
  | t :: ts => .cons (.ty t) (clsV_all ts)
theorem p_isiT (ts : List String) : PrimOk K (r1L fun x H Q => ∀ p, H p = none → rIsiT K [x, .ref p] (upd H p (.tup (ts.map V.ty))) Q) (prim (.isinst ts)) := r1_u1 fun a o e G H x Q s h q => by
  simp only [Option.map_eq_some_iff] at e
  obtain ⟨b, e, rfl⟩ := e
  intro p hp
  have sH : Sub H (upd H p (.tup (ts.map V.ty))) := (Sub.refl H).upd hp
  refine ⟨x, p, ts.map V.ty, _, _, b, rfl, upd_same, clsV_all ts, TyX.keep sH (tyx_ok s h), isAny_kit e, q _ _ ⟨G, .refl G, s.trans sH, sH, by simp only [Sh], fun _ _ _ => rfl⟩⟩

/-! ### texts -/
theorem r_s2 {f : Str → Str → Option O} {r : List V → Hp → VK → Prop} (h : ∀ i j o, f i j = some o → ∀ G H Q, Sub G H → (∀ v H', Pr K G H o v H' → Q v H') → r [.str i, .str j] H Q) : PrimOk K r (s2 f) := by
  intro os o e G H vs Q s g q
  unfold s2 at e
  split at e
  · obtain ⟨x, y, rfl, h1, h2⟩ := g.two
    cases h1.str
    cases h2.str
    exact h _ _ _ e G H Q s q
  · cases e
/-- a method's reading as one over receiver and arguments -/
def rM (r : V → List V → Hp → VK → Prop) : List V → Hp → VK → Prop := fun vs H Q => match vs with
  | x :: xs => r x xs H Q
  | _ => False
theorem p_find : PrimOk K (rM fun x xs H Q => ∃ a b, x = .str a ∧ xs = [.str b] ∧ Q (.int (Txt.find a b)) H) (prim .find) := r_s2 fun i j o e G H Q s q => by
  cases e
  exact ⟨i, j, rfl, rfl, q _ _ (prI s)⟩
theorem p_startswith : PrimOk K (rM fun x xs H Q => ∃ a b, x = .str a ∧ xs = [.str b] ∧ Q (.bl (Txt.startswith a b)) H) (prim .startswith) := r_s2 fun i j o e G H Q s q => by
  cases e
  exact ⟨i, j, rfl, rfl, q _ _ (prB s)⟩
theorem ShL.strs : ∀ ys : List Str, ShL K G (ys.map PyData.str) (ys.map V.str)
  | [] => by simp only [List.map_nil, ShL]
  | y :: ys => by
    simp only [List.map_cons, ShL, Sh]
    exact ⟨_, _, rfl, rfl, ShL.strs ys⟩
theorem p_split : PrimOk K (rM fun x xs H Q => ∃ a b, x = .str a ∧ xs = [.str b] ∧ (b.length == 0) = false ∧ a.length + 2 ≤ sizeLine ∧ rNewStrs (Txt.split a b) H Q) (prim .split) := r_s2 fun i j o e G H Q s q => by
  obtain ⟨c, rfl⟩ := gd_some e
  simp only [Bool.and_eq_true, Bool.not_eq_true', decide_eq_true_eq] at c
  exact ⟨i, j, rfl, rfl, c.1, c.2, fun p hp => q _ _ (Pr.lst hp (ShL.strs _))⟩
theorem p_find3 : PrimOk K (rM fun x xs H Q => ∃ (a b : Str) (i : Int), x = .str a ∧ xs = [.str b, .int i] ∧ Q (.int (Txt.find3 a b i)) H) (prim .find3) := by
  intro os o e G H vs Q s g q
  change pFind3 os = some o at e
  unfold pFind3 at e
  split at e
  · cases e
    obtain ⟨x, y, z, rfl, h1, h2, h3⟩ := g.three
    cases h1.str
    cases h2.str
    cases h3.int
    exact ⟨_, _, _, rfl, rfl, q _ _ (prI s)⟩
  · cases e
theorem p_join : PrimOk K (rM fun x xs H Q => ∃ a p, ∃ ys : List Str, x = .str a ∧ xs = [.ref p] ∧ (SqL K H p (ys.map V.str) ∨ SqT K H p (ys.map V.str)) ∧
    (ys.map (·.length)).sum + ys.length * a.length ≤ 16777216 ∧ Q (.str (Txt.join a ys)) H) (prim .join) := by
  intro os o e G H vs Q s g q
  change pJoin os = some o at e
  unfold pJoin at e
  split at e
  · rename_i x a
    obtain ⟨y, z, rfl, h1, h2⟩ := g.two
    cases h1.str
    split at e
    · rename_i ds e1
      split at e
      · rename_i ys e2
        obtain ⟨c, rfl⟩ := gd_some e
        obtain ⟨p, xs, rfl, hp, hq⟩ := Fo.seq e1 s h2
        cases allSt_ok e2 hq
        exact ⟨x, p, ys, rfl, rfl, hp, of_decide_eq_true c, q _ _ (prS s)⟩
      · cases e
    · cases e
  · cases e

/-! ### dicts -/
theorem ShK.put : ∀ {ds : List (Key × PyData)} {xs : List (Key × V)} {k : Key} {d : PyData} {v : V}, ShK K G ds xs → Sh K G d v → ShK K G (putD ds k d) (putK xs k v) := by
  have any : ∀ {ds : List (Key × PyData)} {xs : List (Key × V)} {k : Key}, ShK K G ds xs → (ds.any fun kv => decide (kv.1 = k)) = (xs.any fun kv => decide (kv.1 = k)) := by
    intro ds
    induction ds with
    | nil =>
      intro xs k h
      simp only [ShK] at h
      rw [h]
      rfl
    | cons p r ih =>
      intro xs k h
      obtain ⟨k2, d⟩ := p
      simp only [ShK] at h
      obtain ⟨v, t, rfl, _, h⟩ := h
      rw [List.any_cons, List.any_cons, ih h]
  have mp : ∀ {ds : List (Key × PyData)} {xs : List (Key × V)} {k : Key} {d : PyData} {v : V}, ShK K G ds xs → Sh K G d v → ShK K G (ds.map fun kv => if kv.1 = k then (kv.1, d) else kv) (xs.map fun kv => if kv.1 = k then (kv.1, v) else kv) := by
    intro ds
    induction ds with
    | nil =>
      intro xs k d v h _
      simp only [ShK] at h
      rw [h]
      simp only [List.map_nil, ShK]
    | cons p r ih =>
      intro xs k d v h hv
      obtain ⟨k2, d2⟩ := p
      simp only [ShK] at h
      obtain ⟨v2, t, rfl, h2, h⟩ := h
      simp only [List.map_cons]
      by_cases e : k2 = k
      · simp only [e, if_true, ShK]
        exact ⟨v, _, rfl, hv, ih h hv⟩
      · simp only [e, if_false, ShK]
        exact ⟨v2, _, rfl, h2, ih h hv⟩
  have app : ∀ {ds : List (Key × PyData)} {xs : List (Key × V)} {k : Key} {d : PyData} {v : V}, ShK K G ds xs → Sh K G d v → ShK K G (ds ++ [(k, d)]) (xs ++ [(k, v)]) := by
    intro ds
    induction ds with
    | nil =>
      intro xs k d v h hv
      simp only [ShK] at h
      rw [h]
      simp only [List.nil_append, ShK]
      exact ⟨v, [], rfl, hv, rfl⟩
    | cons p r ih =>
      intro xs k d v h hv
      obtain ⟨k2, d2⟩ := p
      simp only [ShK] at h
      obtain ⟨v2, t, rfl, h2, h⟩ := h
      simp only [List.cons_append, ShK]
      exact ⟨v2, _, rfl, h2, ih h hv⟩
  intro ds xs k d v h hv
  unfold putD putK
  rw [any h]
  split
  · exact mp h hv
  · exact app h hv
theorem ShK.get : ∀ {ds : List (Key × PyData)} {xs : List (Key × V)} {k : Key}, ShK K G ds xs → (valD ds k = none ∧ valV xs k = none) ∨ ∃ d v, valD ds k = some d ∧ valV xs k = some v ∧ Sh K G d v
  | [], xs, k, h => by
    simp only [ShK] at h
    rw [h]
    exact .inl ⟨rfl, rfl⟩
  | (k2, d) :: r, xs, k, h => by
    simp only [ShK] at h
    obtain ⟨v, t, rfl, h1, h2⟩ := h
    by_cases e : k2 = k
    · exact .inr ⟨d, v, by simp [valD, e], by simp [valV, e], h1⟩
    · have q := ShK.get (k := k) h2
      simp only [valD, valV, List.find?_cons, e, decide_false] at q ⊢
      exact q
theorem pairs_ok : ∀ {ds : List PyData} {ps : List (Key × PyData)} {vs : List V}, pairsOf ds = some ps → ShL K G ds vs → ∃ (as : List Addr) (kvs : List (Key × V)), vs = as.map V.ref ∧ Paired (fun p kv => SqT K G p [kV kv.1, kv.2]) as kvs ∧ ShK K G ps kvs
  | [], ps, vs, e, h => by
    simp only [pairsOf] at e
    cases e
    simp only [ShL] at h
    rw [h]
    exact ⟨[], [], rfl, .nil, by simp only [ShK]⟩
  | d :: ds, ps, vs, e, h => by
    unfold pairsOf at e
    split at e
    · rename_i e0
      cases e0
    · rename_i i d2 r e0
      cases e0
      simp only [Option.map_eq_some_iff] at e
      obtain ⟨qs, e, rfl⟩ := e
      simp only [ShL, Sh] at h
      obtain ⟨v, r2, rfl, ⟨a, ws, rfl, hT, w1, r3, rfl, rfl, w2, r4, rfl, h3, rfl⟩, h⟩ := h
      obtain ⟨as, kvs, rfl, h4, h5⟩ := pairs_ok e h
      refine ⟨a :: as, (.inl i, w2) :: kvs, rfl, .cons hT h4, ?_⟩
      simp only [ShK]
      exact ⟨w2, kvs, rfl, h3, h5⟩
    · rename_i i d2 r e0
      cases e0
      simp only [Option.map_eq_some_iff] at e
      obtain ⟨qs, e, rfl⟩ := e
      simp only [ShL, Sh] at h
      obtain ⟨v, r2, rfl, ⟨a, ws, rfl, hT, w1, r3, rfl, rfl, w2, r4, rfl, h3, rfl⟩, h⟩ := h
      obtain ⟨as, kvs, rfl, h4, h5⟩ := pairs_ok e h
      refine ⟨a :: as, (.inr i, w2) :: kvs, rfl, .cons hT h4, ?_⟩
      simp only [ShK]
      exact ⟨w2, kvs, rfl, h3, h5⟩
    · cases e
theorem merge_ok : ∀ {ps : List (Key × PyData)} {kvs : List (Key × V)} {m : List (Key × PyData)} {n : List (Key × V)}, ShK K G m n → ShK K G ps kvs → ShK K G (ps.foldl (fun m p => putD m p.1 p.2) m) (mergeK n kvs)
  | [], kvs, m, n, h, h2 => by
    simp only [ShK] at h2
    rw [h2]
    exact h
  | (k, d) :: ps, kvs, m, n, h, h2 => by
    simp only [ShK] at h2
    obtain ⟨v, t, rfl, h3, h4⟩ := h2
    have z := merge_ok (ps := ps) (m := putD m k d) (n := putK n k v) (ShK.put h h3) h4
    exact z
theorem p_dict : PrimOk K (fun xs H Q => ∃ (a : Addr) (ps : List Addr) (kvs : List (Key × V)), xs = [.ref a] ∧ SqL K H a (ps.map V.ref) ∧ Paired (fun p kv => SqT K H p [kV kv.1, kv.2]) ps kvs ∧
    ∀ p, H p = none → Q (.ref p) (upd H p (.dK (mergeK [] kvs)))) (prim .dict1) := by
  intro os o e G H vs Q s g q
  change u1 _ os = some o at e
  unfold u1 at e
  split at e
  · obtain ⟨x, rfl, h1⟩ := g.one
    unfold pDict at e
    split at e
    · rename_i ds e1
      simp only [Option.map_eq_some_iff] at e
      obtain ⟨ps, e, rfl⟩ := e
      obtain ⟨p, xs, rfl, hp, hq⟩ := Fo.list e1 s h1
      obtain ⟨as, kvs, rfl, h4, h5⟩ := pairs_ok e hq
      have up : ∀ {as : List Addr} {kvs : List (Key × V)}, Paired (fun p kv => SqT K G p [kV kv.1, kv.2]) as kvs → Paired (fun p kv => SqT K H p [kV kv.1, kv.2]) as kvs := by
        intro as kvs h
        induction h with
        | nil => exact .nil
        | cons h _ ih => exact .cons (s.sqT h) ih
      exact ⟨p, as, kvs, rfl, .of hp, up h4, fun l hl => q _ _ ⟨l, _, _, rfl, hl, rfl, rfl, merge_ok (by simp only [ShK]) h5⟩⟩
    · cases e
  · cases e
end
end Qv
end
section
set_option Elab.async false
set_option linter.all false
set_option maxRecDepth 100000
set_option maxHeartbeats 1000000
/-! Q6: how expressions of the text compute as terms do. -/
namespace Qv
open PySem PySem.Spec PyProof.Rows L2

section
variable {K : Frag} {H : Hp} {ρ : Env} {σ : L2.St} {M N : List En}
/-- temps that stand on the stack -/
def Tin : List Opd → List V → List En → Prop
  | .sl _ :: xs, _ :: vs, N => Tin xs vs N
  | .tv o :: xs, v :: vs, N => (some o, v) ∈ N ∧ Tin xs vs N
  | _, _, _ => True
theorem Tin.mono {N N' : List En} (h : ∀ e ∈ N, e ∈ N') : ∀ {xs : List Opd} {vs : List V}, Tin xs vs N → Tin xs vs N'
  | [], _, _ => by simp only [Tin]
  | .sl _ :: xs, [], _ => by simp only [Tin]
  | .tv _ :: xs, [], _ => by simp only [Tin]
  | .sl _ :: xs, _ :: vs, t => by
    simp only [Tin] at t ⊢
    exact Tin.mono h t
  | .tv _ :: xs, _ :: vs, t => by
    simp only [Tin] at t ⊢
    exact ⟨h _ t.1, Tin.mono h t.2⟩
theorem Tin.pushes : ∀ {xs : List Opd} {vs : List V} {M : List En}, Tin xs vs (pushes xs vs M)
  | [], _, _ => by simp only [Tin]
  | .sl _ :: xs, [], _ => by simp only [Tin]
  | .tv _ :: xs, [], _ => by simp only [Tin]
  | .sl _ :: xs, _ :: vs, M => by
    simp only [Tin]
    exact Tin.pushes (xs := xs) (vs := vs) (M := M)
  | .tv o :: xs, v :: vs, M => by
    simp only [Tin]
    exact ⟨pushes_mem (xs := xs) (vs := vs) List.mem_cons_self, Tin.pushes (xs := xs) (vs := vs) (M := (some o, v) :: M)⟩
theorem rdO_sl {i : Nat} {o : O} (h : rdO ρ (.sl i) = some o) : ρ[i]? = some (some o) := by
  simp only [rdO] at h
  split at h
  · rename_i o2 h4
    cases h
    exact h4
  · cases h
theorem fo_of {G : Hp} {A : List Addr} {L : List En} (c : Cov ρ σ) (q : PL K G H L A) (ml : ∀ e ∈ live ρ σ, e ∈ L) : ∀ {xs : List Opd} {vs : List V} {os : List O}, Tin xs vs L → Ats xs vs σ → rdOs ρ xs = some os → FoL K G H os vs
  | [], vs, os, _, a, e => by
    simp only [rdOs] at e
    cases e
    exact a
  | .sl i :: xs, vs, os, m, a, e => by
    obtain ⟨v, r, rfl, e1, a⟩ := a
    simp only [rdOs] at e
    split at e
    · rename_i o os' h1 h2
      split at e
      · rename_i hf
        cases e
        obtain ⟨B, q2⟩ := PL.mem q (ml _ (c.mem (rdO_sl h1) e1))
        exact ⟨v, r, rfl, Ow.fo q2 hf, fo_of c q ml (by simpa only [Tin] using m) a h2⟩
      · cases e
    · cases e
  | .tv o1 :: xs, vs, os, m, a, e => by
    obtain ⟨v, r, rfl, a⟩ := a
    simp only [Tin] at m
    simp only [rdOs] at e
    split at e
    · rename_i o os' h1 h2
      split at e
      · rename_i hf
        cases e
        simp only [rdO] at h1
        cases h1
        obtain ⟨B, q2⟩ := PL.mem q m.1
        exact ⟨v, r, rfl, Ow.fo q2 hf, fo_of c q ml m.2 a h2⟩
      · cases e
    · cases e
/-- operands that are looked at; the stack stays -/
theorem Ws.look {xs : List Opd} {vs : List V} {os : List O} (h : Ws K H N ρ σ) (t : Tin xs vs N) (a : Ats xs vs σ) (e : rdOs ρ xs = some os) :
    ∃ G, Sub G H ∧ FoL K G H os vs ∧ (∀ o v H', Pr K G H o v H' → Ws K H' ((some o, v) :: N) ρ σ) := by
  obtain ⟨c, G, A, s, q, n, f⟩ := h
  exact ⟨G, s, fo_of c q (fun _ z => List.mem_append_right _ z) (t.mono fun _ z => List.mem_append_left _ z) a e, fun o v H' p => ⟨c, Pr.close s q n f p⟩⟩
theorem Ws.scal {d : PyData} {v : V} (h : Ws K H ((some (.sh d), v) :: M) ρ σ) : ∃ G, Sub G H ∧ Sh K G d v := by
  obtain ⟨_, G, A, s, ⟨B, C, q1, _, _⟩, _, _⟩ := h
  simp only [OwE, Ow] at q1
  exact ⟨G, s, q1.2⟩
theorem Ws.bool {b : Bool} {v : V} (h : Ws K H ((some (.sh (.bool b)), v) :: M) ρ σ) : v = .bl b := by
  obtain ⟨G, _, q⟩ := h.scal
  simpa only [Sh] using q
/-- the second of the stack left out -/
theorem Ws.under {e f : En} (h : Ws K H (e :: f :: M) ρ σ) : Ws K H (e :: M) ρ σ := (h.mono (.swap f e M)).drop
theorem Ws.underL {e : En} (T : List En) (h : Ws K H (e :: (T ++ M)) ρ σ) : Ws K H (e :: M) ρ σ := by
  have p : (e :: (T ++ M)).Perm (T ++ e :: M) := List.perm_middle.symm
  exact (h.mono p).dropL T
end

abbrev SE (X : Cx) (C : Cal) (e : Expr) (τ : T) : Prop := PE X e (tS X.K C τ)
abbrev SO (X : Cx) (C : Cal) (e : Expr) (τ : T) : Prop := PE X e (tO X.K C τ)
abbrev ST (X : Cx) (C : Cal) (e : Expr) (τ : T) : Prop := PT X e (tT X.K C τ)
abbrev SOs (X : Cx) (C : Cal) (es : List Expr) (τs : List T) : Prop := PA X es (tOs X.K C τs)
abbrev SEs (X : Cx) (C : Cal) (es : List Expr) (τs : List T) : Prop := PA X es (tSs X.K C τs)

section
variable {X : Cx} {C : Cal} {e a b c : Expr} {es : List Expr} {τ τa τb τc : T} {τs : List T} {pos p pos' : Pos}

theorem s_cst {d : PyData} {v : V} (h : PE X e (tC v)) (q : ∀ G, Sh X.K G d v) : SE X C e (.c d) := PE.imp h fun σ H Q z => by
  obtain ⟨ρ, o, ρ', M, e1, w, z⟩ := z
  simp only [ev] at e1
  cases e1
  exact z v H (w.flat q)
theorem s_non {j pos} : SE X C (.Constant .none j pos) (.c .none) := s_cst pe_non fun _ => by simp only [Sh]
theorem s_bl {b : Bool} {j pos} : SE X C (.Constant (.bool b) j pos) (.c (.bool b)) := s_cst pe_bl fun _ => by simp only [Sh]
theorem s_int {i : Int} {j pos} : SE X C (.Constant (.int i) j pos) (.c (.int i)) := s_cst pe_int fun _ => by simp only [Sh]
theorem s_str {x : Str} {j pos} : SE X C (.Constant (.str x) j pos) (.c (.str x)) := s_cst pe_str fun _ => by simp only [Sh]
theorem s_nm {i : Nat} (h : PE X e (tVar i)) : SE X C e (.nm i) := PE.imp h fun σ H Q z => by
  obtain ⟨ρ, o, ρ', M, e1, w, z⟩ := z
  simp only [ev] at e1
  obtain ⟨v, hv, w2⟩ := w.name e1
  exact ⟨v, hv, z v H w2⟩
theorem s_mv {i : Nat} (h : PE X e (tVar i)) : SE X C e (.mv i) := PE.imp h fun σ H Q z => by
  obtain ⟨ρ, o, ρ', M, e1, w, z⟩ := z
  simp only [ev] at e1
  obtain ⟨v, hv, w2⟩ := w.moved e1
  exact ⟨v, hv, z v H w2⟩
theorem so_nm {i : Nat} (h : PE X e (tVar i)) : SO X C e (.nm i) := h
theorem so_of (h : SE X C e τ) (n : isNm τ = none) : SO X C e τ := by
  show PE X e (tO X.K C τ)
  rw [tO_tS n]
  exact h

/-! ### displays -/
theorem evs_run {K : Frag} {σ : L2.St} : ∀ {τs : List T} {ρ ρ' : Env} {os : List O} {H : Hp} {M : List En} {R : List V → Hp → Prop}, evs C τs ρ = some (os, ρ') → Ws K H M ρ σ →
    (∀ vs H', os.length = vs.length → Ws K H' (ens os vs ++ M) ρ' σ → R vs H') → tSs K C τs σ H R
  | [], ρ, ρ', os, H, M, R, e, w, q => by
    simp only [evs] at e
    cases e
    exact q [] H rfl w
  | τ :: τs, ρ, ρ', os, H, M, R, e, w, q => by
    simp only [evs] at e
    split at e
    · rename_i o ρ1 h1
      split at e
      · rename_i os' ρ2 h2
        cases e
        refine ⟨ρ, o, ρ1, M, h1, w, fun v H1 w1 => evs_run h2 w1 fun vs H' l w' => q (v :: vs) H' (by rw [List.length_cons, List.length_cons, l]) (w'.mono ?_)⟩
        exact List.perm_middle
      · cases e
    · cases e
theorem Wd.fzL {K : Frag} {H : Hp} {L : List En} : ∀ {os : List O} {vs : List V}, Wd K H (ens os vs ++ L) → Wd K H (ens (os.map fun o => .sh o.d) vs ++ L)
  | [], _, h => h
  | _ :: _, [], h => h
  | o :: os, v :: vs, h => by
    have h1 : Wd K H ((some (.sh o.d), v) :: (ens os vs ++ L)) := Wd.fz h
    have h2 : Wd K H (ens os vs ++ ((some (.sh o.d), v) :: L)) := h1.perm List.perm_middle.symm
    exact (Wd.fzL h2).perm List.perm_middle
theorem s_tup {x1} (h : SEs X C es τs) : SE X C (.Tuple es x1 pos) (.tup τs) := PE.imp (pe_tup h) fun σ H Q z => by
  obtain ⟨ρ, o, ρ', M, e1, w, z⟩ := z
  simp only [ev] at e1
  split at e1
  · rename_i os ρ1 h1
    split at e1
    · rename_i hl
      cases e1
      refine evs_run h1 w fun vs H1 l w1 => ⟨by rw [← l]; exact hl, fun p hp => z _ _ ⟨w1.1, ?_⟩⟩
      have w2 := w1.2
      rw [List.append_assoc] at w2
      have w3 := (Wd.tuple w2 l hp).fz
      simp only [O.d] at w3
      exact w3
    · cases e1
  · cases e1
theorem s_tupo {x1} (h : SEs X C es τs) : SE X C (.Tuple es x1 pos) (.tupo τs) := PE.imp (pe_tup h) fun σ H Q z => by
  obtain ⟨ρ, o, ρ', M, e1, w, z⟩ := z
  simp only [ev] at e1
  split at e1
  · rename_i os ρ1 h1
    split at e1
    · rename_i hl
      cases e1
      refine evs_run h1 w fun vs H1 l w1 => ⟨by rw [← l]; exact hl, fun p hp => z _ _ ⟨w1.1, ?_⟩⟩
      have w2 := w1.2
      rw [List.append_assoc] at w2
      exact Wd.tuple w2 l hp
    · cases e1
  · cases e1
theorem map_sh_d : ∀ os : List O, (os.map fun o => O.sh o.d) = (O.dL os).map O.sh
  | [] => rfl
  | o :: os => by rw [List.map_cons, map_sh_d os]; rfl
theorem s_lst (h : SEs X C es τs) : SE X C (.List es pos) (.lst τs) := PE.imp (pe_lst h) fun σ H Q z => by
  obtain ⟨ρ, o, ρ', M, e1, w, z⟩ := z
  simp only [ev] at e1
  split at e1
  · rename_i os ρ1 h1
    split at e1
    · rename_i hl
      cases e1
      refine evs_run h1 w fun vs H1 l w1 => ⟨by rw [← l]; exact hl, fun p hp => z _ _ ⟨w1.1, ?_⟩⟩
      have w2 := w1.2
      rw [List.append_assoc] at w2
      have w3 := Wd.list (Wd.fzL w2) (by rw [List.length_map]; exact l) hp
      rw [map_sh_d] at w3
      exact w3
    · cases e1
  · cases e1

/-! ### operations -/
theorem s_op2 {op : Operator} {r : R2} {k : OpK} (ho : OpR X (binaryOp op) r) (pr : PrimOk X.K (r2L r) (prim k)) (ha : SO X C a τa) (hb : SO X C b τb) : SE X C (.BinOp a op b pos) (.op k [τa, τb]) :=
  PE.imp (pe_op ho ha hb) fun σ H Q z => op_sim pr σ H Q z
theorem s_un {op : UnaryOp} {r : V → Hp → VK → Prop} {k : OpK} (ho : UnR X (unaryOp op) r) (pr : PrimOk X.K (r1L r) (prim k)) (ha : SO X C a τa) : SE X C (.UnaryOp op a pos) (.op k [τa]) :=
  PE.imp (pe_un ho ha) fun σ H Q z => op_sim pr σ H Q z
theorem s_cmp {op : CmpOp} {r : R2} {k : OpK} (ho : OpR X (compareOp op) r) (pr : PrimOk X.K (r2L r) (prim k)) (ha : SO X C a τa) (hb : SO X C b τb) (hm : behindInMarks op b = false) : SE X C (.Compare a [op] [b] pos) (.op k [τa, τb]) :=
  PE.imp (pe_cmpR ho ha hb hm) fun σ H Q z => op_sim pr σ H Q z
theorem s_isN {j} (ha : SO X C a τa) : SE X C (.Compare a [.Is] [.Constant .none j p] pos) (.op .isnone [τa]) :=
  PE.imp (pe_cmpR op_isN ha pe_non (nomark _)) fun σ H Q z => op_sim p_isnone σ H Q z
theorem s_notN {j} (ha : SO X C a τa) : SE X C (.Compare a [.IsNot] [.Constant .none j p] pos) (.op .notnone [τa]) :=
  PE.imp (pe_cmpR op_notN ha pe_non (nomark _)) fun σ H Q z => op_sim p_notnone σ H Q z
theorem s_ix (ha : SO X C a τa) (hb : SO X C b τb) (hs : PlainIx b) : SE X C (.Subscript a b pos) (.op .item [τa, τb]) :=
  PE.imp (pe_ix ix_seq ha hb hs) fun σ H Q z => op_sim p_item σ H Q z
theorem s_revL {k : Nat} {p1 p2 p3 : Pos} (ha : SO X C a τa) : SE X C (.Subscript a (.Slice none none (some (.UnaryOp .USub (.Constant (.int 1) k p1) p2)) p3) pos) (.op .back [τa]) :=
  PE.imp (pe_revL ha) fun σ H Q z => op_sim p_back σ H Q z
theorem s_callB {x : Str} {id : String} {r : List V → Hp → VK → Prop} {k : OpK} (hc : CallR X (.builtin id) r) (pr : PrimOk X.K r (prim k)) (hg : Gl X x) (hm : X.mg x = none) (hv : bootBuiltins x = some (.builtin id)) (ha : SOs X C (e :: es) τs)
    (hn : x ≠ "__name__") (hdb : (x == ("__debug__" : Str)) = false) (he : starEach (e :: es) X.env = (false, eval e X.env) :: starEach es X.env) (hpl : (backTo pos (starEach es X.env)).any (·.1) = false) :
    SE X C (.Call (.Name x p) (e :: es) [] pos) (.op k τs) :=
  PE.imp (pe_callB hc hg hm hv ha hn hdb he hpl) fun σ H Q z => op_sim pr σ H Q z
theorem s_callTy {x : Str} {id : String} {r : List V → Hp → VK → Prop} {k : OpK} (hc : CallR X (.type id) r) (pr : PrimOk X.K r (prim k)) (hg : Gl X x) (hm : X.mg x = none) (hv : bootBuiltins x = some (.type id)) (ha : SOs X C (e :: es) τs)
    (hn : x ≠ "__name__") (hdb : (x == ("__debug__" : Str)) = false) (he : starEach (e :: es) X.env = (false, eval e X.env) :: starEach es X.env) (hpl : (backTo pos (starEach es X.env)).any (·.1) = false) :
    SE X C (.Call (.Name x p) (e :: es) [] pos) (.op k τs) :=
  PE.imp (pe_callTy hc hg hm hv ha hn hdb he hpl) fun σ H Q z => op_sim pr σ H Q z

/-! ### and, or, not, a if c else b -/
theorem s_and {rest : List Expr} (ha : SE X C a τa) (hb : SE X C (.BoolOp .And (b :: rest) pos) τb) : SE X C (.BoolOp .And (a :: b :: rest) pos) (.and2 τa τb) := PE.imp (pe_and ha hb) fun σ H Q z => by
  obtain ⟨ρ, o, ρ', M, e1, w, z⟩ := z
  simp only [ev] at e1
  split at e1
  · rename_i ρ1 h1
    exact ⟨ρ, _, ρ1, M, h1, w, fun v H1 w1 => ⟨true, w1.bool, iteT ⟨ρ1, o, ρ', M, e1, w1.drop, z⟩⟩⟩
  · rename_i ρ1 h1
    cases e1
    refine ⟨ρ, _, _, M, h1, w, fun v H1 w1 => ⟨false, w1.bool, iteF ?_⟩⟩
    have e := w1.bool
    subst e
    exact z _ _ w1
  · cases e1
theorem s_or {rest : List Expr} (ha : SE X C a τa) (hb : SE X C (.BoolOp .Or (b :: rest) pos) τb) : SE X C (.BoolOp .Or (a :: b :: rest) pos) (.or2 τa τb) := PE.imp (pe_or ha hb) fun σ H Q z => by
  obtain ⟨ρ, o, ρ', M, e1, w, z⟩ := z
  simp only [ev] at e1
  split at e1
  · rename_i ρ1 h1
    cases e1
    refine ⟨ρ, _, _, M, h1, w, fun v H1 w1 => ⟨true, w1.bool, iteT ?_⟩⟩
    have e := w1.bool
    subst e
    exact z _ _ w1
  · rename_i ρ1 h1
    refine ⟨ρ, _, ρ1, M, h1, w, fun v H1 w1 => ⟨false, w1.bool, iteF ?_⟩⟩
    exact ⟨ρ1, o, ρ', M, e1, w1.drop, z⟩
  · cases e1
theorem s_one {op} (h : SE X C a τ) : SE X C (.BoolOp op [a] pos) τ := pe_one h
theorem s_notT (ha : SO X C a τa) : SE X C (.UnaryOp .Not a pos) (.op .nt [τa]) := PE.imp (pe_notT ha) fun σ H Q z => by
  have pr : PrimOk X.K (r1L fun x H Q => ∃ k, TruV X.K x H k ∧ Q (.bl (!k)) H) (prim .nt) := r1_u1 fun a o e G H x Q s h q => by
    simp only [Option.map_eq_some_iff] at e
    obtain ⟨b, e, rfl⟩ := e
    exact ⟨b, tru_in e s h, q _ _ (prB s)⟩
  exact op_sim (r := r1L fun x H Q => ∃ k, TruV X.K x H k ∧ Q (.bl (!k)) H) pr σ H Q z
theorem s_ite (hc : ST X C c τc) (ha : SE X C a τa) (hb : SE X C b τb) : SE X C (.IfExp c a b pos) (.ite τc τa τb) := PE.imp (pe_ifExp hc ha hb) fun σ H Q z => by
  obtain ⟨ρ, o, ρ', M, e1, w, z⟩ := z
  simp only [ev] at e1
  split at e1
  · rename_i ρ1 h1
    exact ⟨ρ, true, ρ1, M, h1, w, fun H1 w1 => iteT ⟨ρ1, o, ρ', M, e1, w1, z⟩⟩
  · rename_i ρ1 h1
    refine ⟨ρ, false, _, M, h1, w, fun H1 w1 => iteF ?_⟩
    exact ⟨ρ1, o, ρ', M, e1, w1, z⟩
  · cases e1

/-! ### tests -/
def PlainT (X : Cx) (a : Expr) : Prop := ∀ whole, isTrue a X.env whole = (do let v ← whole; standAt a.pos; holding [v] (truthy v))
theorem t_tt (ha : SO X C a τa) (he : PlainT X a) : ST X C a (.tt τa) := PT.imp (pt_truth ha he) fun σ H Q z => by
  obtain ⟨ρ, b, ρ', M, e1, w, z⟩ := z
  simp only [ev] at e1
  split at e1
  · rename_i i hi
    have hi := isNm_some hi
    subst hi
    split at e1
    · rename_i o h1
      split at e1
      · rename_i b' h2
        cases e1
        have h3 : ρ[i]? = some (some o) := by
          simp only [rdOs] at h1
          split at h1
          · rename_i o2 os2 h4 h5
            split at h1
            · cases h5
              cases h1
              exact rdO_sl h4
            · cases h1
          · cases h1
        obtain ⟨v, hv, _⟩ := w.1.take h3
        obtain ⟨G, s, f, _⟩ := w.look (xs := [.sl i]) (vs := [v]) (by simp only [Tin]) ⟨v, [], rfl, hv, rfl⟩ h1
        obtain ⟨x, e2, hx⟩ := f.one
        cases e2
        exact ⟨v, hv, b, tru_in h2 s hx, z H w⟩
      · cases e1
    · cases e1
  · rename_i hi
    split at e1
    · rename_i o ρ1 h1
      split at e1
      · rename_i o' h2
        split at e1
        · rename_i b' h3
          cases e1
          show tO X.K C τa σ H _
          rw [tO_tS hi]
          refine ⟨ρ, o, _, M, h1, w, fun v H1 w1 => ?_⟩
          obtain ⟨G, s, f, _⟩ := w1.look (xs := [.tv o]) (vs := [v]) (by simp only [Tin]; exact ⟨List.mem_cons_self, trivial⟩) ⟨v, [], rfl, rfl⟩ h2
          obtain ⟨x, e2, hx⟩ := f.one
          cases e2
          exact ⟨b, tru_in h3 s hx, z H1 w1.drop⟩
        · cases e1
      · cases e1
    · cases e1
abbrev SW (X : Cx) (C : Cal) (e : Expr) (τ : T) : Prop := PW X e (tT X.K C τ)
theorem PW.imp {e : Expr} {t t' : TT} (h : PW X e t) (w : ∀ σ H Q, t' σ H Q → t σ H Q) : PW X e t' := ⟨fun wh pins s σ H Q I q => h.run wh pins s σ H Q I (w σ H Q q)⟩
theorem t_and1 (ha : ST X C a τ) : SW X C (.BoolOp .And [a] pos) τ := pw_and1 ha
theorem t_or1 (ha : ST X C a τ) : SW X C (.BoolOp .Or [a] pos) τ := pw_or1 ha
theorem t_and {rest : List Expr} (ha : ST X C a τa) (hb : SW X C (.BoolOp .And (b :: rest) pos) τb) : SW X C (.BoolOp .And (a :: b :: rest) pos) (.and2 τa τb) := PW.imp (pw_and ha hb) fun σ H Q z => by
  obtain ⟨ρ, t, ρ', M, e1, w, z⟩ := z
  simp only [ev] at e1
  split at e1
  · rename_i ρ1 h1
    exact ⟨ρ, true, ρ1, M, h1, w, fun H1 w1 => iteT ⟨ρ1, t, ρ', M, e1, w1, z⟩⟩
  · rename_i ρ1 h1
    cases e1
    refine ⟨ρ, false, _, M, h1, w, fun H1 w1 => iteF ?_⟩
    exact z _ w1
  · cases e1
theorem t_or {rest : List Expr} (ha : ST X C a τa) (hb : SW X C (.BoolOp .Or (b :: rest) pos) τb) : SW X C (.BoolOp .Or (a :: b :: rest) pos) (.or2 τa τb) := PW.imp (pw_or ha hb) fun σ H Q z => by
  obtain ⟨ρ, t, ρ', M, e1, w, z⟩ := z
  simp only [ev] at e1
  split at e1
  · rename_i ρ1 h1
    cases e1
    exact ⟨ρ, true, _, M, h1, w, fun H1 w1 => iteT (z _ w1)⟩
  · rename_i ρ1 h1
    refine ⟨ρ, false, _, M, h1, w, fun H1 w1 => iteF ?_⟩
    exact ⟨ρ1, t, ρ', M, e1, w1, z⟩
  · cases e1
theorem t_not (ha : ST X C a τ) : ST X C (.UnaryOp .Not a pos) (.tn τ) := PT.imp (pt_not ha) fun σ H Q z => by
  obtain ⟨ρ, t, ρ', M, e1, w, z⟩ := z
  simp only [ev] at e1
  split at e1
  · rename_i b ρ1 h1
    cases e1
    exact ⟨ρ, b, _, M, h1, w, fun H1 w1 => z _ w1⟩
  · cases e1
end
end Qv
end
section
set_option Elab.async false
set_option linter.all false
set_option maxRecDepth 100000
set_option maxHeartbeats 1000000
/-! Q7: chains, items of rows, slices, methods, calls. -/
namespace Qv
open PySem PySem.Spec PyProof.Rows L2

section
variable {X : Cx} {C : Cal} {e a b c : Expr} {es : List Expr} {τ τa τb τc : T} {τs : List T} {pos p pos' : Pos}
variable {K : Frag} {H : Hp} {ρ : Env} {σ : L2.St} {M N : List En}

theorem evOs_len : ∀ {τs : List T} {ρ ρ' : Env} {xs : List Opd}, evOs C τs ρ = some (xs, ρ') → xs.length = τs.length
  | [], ρ, ρ', xs, e => by
    simp only [evOs] at e
    cases e
    rfl
  | τ :: τs, ρ, ρ', xs, e => by
    simp only [evOs] at e
    split at e
    · split at e
      · split at e
        · rename_i h
          cases e
          rw [List.length_cons, List.length_cons, evOs_len h]
        · cases e
      · cases e
    · split at e
      · split at e
        · rename_i h
          cases e
          rw [List.length_cons, List.length_cons, evOs_len h]
        · cases e
      · cases e
theorem Ats.len : ∀ {xs : List Opd} {vs : List V}, Ats xs vs σ → xs.length = vs.length
  | [], vs, a => by
    have a : vs = [] := a
    rw [a]
    rfl
  | .sl i :: xs, vs, a => by
    obtain ⟨v, r, rfl, _, a⟩ := a
    rw [List.length_cons, List.length_cons, Ats.len a]
  | .tv i :: xs, vs, a => by
    obtain ⟨v, r, rfl, a⟩ := a
    rw [List.length_cons, List.length_cons, Ats.len a]
theorem Ats.append : ∀ {xs ys : List Opd} {vs ws : List V}, Ats xs vs σ → Ats ys ws σ → Ats (xs ++ ys) (vs ++ ws) σ
  | [], ys, vs, ws, a, b => by
    have a : vs = [] := a
    rw [a]
    exact b
  | .sl i :: xs, ys, vs, ws, a, b => by
    obtain ⟨v, r, rfl, e, a⟩ := a
    exact ⟨v, r ++ ws, rfl, e, Ats.append a b⟩
  | .tv i :: xs, ys, vs, ws, a, b => by
    obtain ⟨v, r, rfl, a⟩ := a
    exact ⟨v, r ++ ws, rfl, Ats.append a b⟩
theorem Tin.append {N : List En} : ∀ {xs ys : List Opd} {vs ws : List V}, xs.length = vs.length → Tin xs vs N → Tin ys ws N → Tin (xs ++ ys) (vs ++ ws) N
  | [], ys, [], ws, _, _, b => b
  | .sl i :: xs, ys, v :: vs, ws, l, a, b => by
    simp only [Tin, List.cons_append] at a ⊢
    exact Tin.append (by simpa using l) a b
  | .tv i :: xs, ys, v :: vs, ws, l, a, b => by
    simp only [Tin, List.cons_append] at a ⊢
    exact ⟨a.1, Tin.append (by simpa using l) a.2 b⟩
  | [], _, _ :: _, _, l, _, _ => by cases l
  | _ :: _, _, [], _, l, _, _ => by cases l
theorem pushes_sub {xs : List Opd} {vs : List V} : ∀ e ∈ M, e ∈ pushes xs vs M := fun e h => pushes_mem h
theorem Ws.pops {xs : List Opd} {vs : List V} (h : Ws K H (pushes xs vs M) ρ σ) : Ws K H M ρ σ := by
  obtain ⟨T, q⟩ := pushes_suffix xs vs M
  rw [q] at h
  exact h.dropL T
theorem Ws.popsU {xs : List Opd} {vs : List V} {e : En} (h : Ws K H (e :: pushes xs vs M) ρ σ) : Ws K H (e :: M) ρ σ := by
  obtain ⟨T, q⟩ := pushes_suffix xs vs M
  rw [q] at h
  exact h.underL T

/-! ### a op b op c -/
theorem chain_run {op op' : CmpOp} {r r' : R2} {k l : OpK} (ho : OpR X (compareOp op) r) (ho' : OpR X (compareOp op') r') (pr : PrimOk X.K (r2L r) (prim k)) (pr' : PrimOk X.K (r2L r') (prim l)) (σ : L2.St) (H : Hp) (Q : VK)
    (z : tS X.K C (.chain k l [τa, τb] [τc]) σ H Q) : tChain r r' (tO X.K C τa) (tO X.K C τb) (tO X.K C τc) σ H Q := by
  obtain ⟨ρ, o, ρ', M, e1, w, z⟩ := z
  simp only [ev] at e1
  split at e1
  · rename_i xs ρ1 h1
    split at e1
    · rename_i os h2
      show tOs X.K C [τa, τb] σ H fun vs H2 => r2L (fun x y H2 Q' => r x y H2 Q') vs H2 fun z H3 => ∃ k, z = .bl k ∧ (if k = true then tO X.K C τc σ H3 fun w' H4 => r' (vs.getD 1 .non) w' H4 Q else Q (.bl false) H3)
      refine opds h1 w fun vs H2 a w2 => ?_
      have two : ∀ {α : Type} {l : List α}, l.length = 2 → ∃ x y, l = [x, y] := fun {α l} h => match l, h with
        | [x, y], _ => ⟨x, y, rfl⟩
      obtain ⟨x1, x2, rfl⟩ := two (evOs_len h1)
      obtain ⟨v1, v2, rfl⟩ := two a.len.symm
      obtain ⟨G, s, f, cl⟩ := w2.look Tin.pushes a h2
      split at e1
      · rename_i h3
        refine pr os _ h3 G H2 [v1, v2] _ s f fun v H3 pv => ?_
        have w3 := cl _ v H3 pv
        have ev := w3.bool
        subst ev
        have w4 := w3.drop
        refine ⟨true, rfl, iteT ?_⟩
        split at e1
        · rename_i ys ρ2 h4
          split at e1
          · rename_i os2 h5
            split at e1
            · rename_i o' h6
              cases e1
              show tOs X.K C [τc] σ H3 fun ws H4 => r2L (fun x y H2 Q' => r' x y H2 Q') (v2 :: ws) H4 Q
              refine opds h4 w4 fun ws H4 a2 w5 => ?_
              have a3 : Ats [x2] [v2] σ := by
                cases x1 with
                | sl i =>
                  obtain ⟨_, _, e, _, a⟩ := a
                  cases e
                  exact a
                | tv i =>
                  obtain ⟨_, _, e, a⟩ := a
                  cases e
                  exact a
              have t3 : Tin [x2] [v2] (pushes [x1, x2] [v1, v2] M) := by
                have t := Tin.pushes (xs := [x1, x2]) (vs := [v1, v2]) (M := M)
                cases x1 with
                | sl i => simpa only [Tin] using t
                | tv i =>
                  simp only [Tin] at t
                  exact t.2
              obtain ⟨G2, s2, f2, cl2⟩ := w5.look (Tin.append (by rfl) (t3.mono fun e he => pushes_mem he) Tin.pushes) (a3.append a2) h5
              exact pr' os2 _ h6 G2 H4 _ Q s2 f2 fun v H5 pv => z v H5 (cl2 _ v H5 pv).popsU.popsU
            · cases e1
          · cases e1
        · cases e1
      · rename_i h3
        cases e1
        refine pr os _ h3 G H2 [v1, v2] _ s f fun v H3 pv => ?_
        have w3 := cl _ v H3 pv
        have ev := w3.bool
        subst ev
        exact ⟨false, rfl, iteF (z _ _ w3.popsU)⟩
      · cases e1
    · cases e1
  · cases e1
theorem s_chain {op op' : CmpOp} {r r' : R2} {k l : OpK} (ho : OpR X (compareOp op) r) (ho' : OpR X (compareOp op') r') (pr : PrimOk X.K (r2L r) (prim k)) (pr' : PrimOk X.K (r2L r') (prim l)) (ha : SO X C a τa) (hb : SO X C b τb) (hc : SO X C c τc)
    (hm : lastMarks [op, op'] [b, c] = false) : SE X C (.Compare a [op, op'] [b, c] pos) (.chain k l [τa, τb] [τc]) := PE.imp (pe_chain ho ho' ha hb hc hm) fun σ H Q z => chain_run ho ho' pr pr' σ H Q z

/-! ### an item of a row that was just made -/
theorem Ws.sub {d : PyData} {v : V} (h : Ws K H ((some (.sh d), v) :: M) ρ σ) : ∃ G, Sub G H ∧ Sh K G d v ∧ ∀ d' v', Sh K G d' v' → Ws K H ((some (.sh d'), v') :: M) ρ σ := by
  obtain ⟨c, G, A, s, ⟨B, C, q1, q2, rfl⟩, n, f⟩ := h
  simp only [OwE, Ow] at q1
  obtain ⟨rfl, q1⟩ := q1
  refine ⟨G, s, q1, fun d' v' q => ⟨c, G, C, s, ⟨[], C, ?_, q2, rfl⟩, n, f⟩⟩
  simp only [OwE, Ow]
  exact ⟨trivial, q⟩
theorem ens_at : ∀ {os : List O} {vs : List V} {j : Nat} {o : O}, os.length = vs.length → os[j]? = some o → ∃ w T U, vs[j]? = some w ∧ ens os vs = T ++ (some o, w) :: U
  | [], _, _, _, _, h => by simp at h
  | o :: os, v :: vs, 0, x, _, h => by
    simp at h
    subst h
    exact ⟨v, [], ens os vs, rfl, rfl⟩
  | o :: os, v :: vs, j + 1, x, l, h => by
    obtain ⟨w, T, U, h1, h2⟩ := ens_at (os := os) (vs := vs) (j := j) (o := x) (by simpa using l) (by simpa using h)
    exact ⟨w, (some o, v) :: T, U, by simpa using h1, by rw [show ens (o :: os) (v :: vs) = (some o, v) :: ens os vs from rfl, h2]; rfl⟩
  | _ :: _, [], _, _, l, _ => by cases l
theorem s_prj {j : Nat} {k : Nat} (ha : SE X C a τ) : SE X C (.Subscript a (.Constant (.int (j : Int)) k p) pos) (.prj τ j) := PE.imp (pe_ix ix_seq ha pe_int (fun _ _ => rfl)) fun σ H Q z => by
  obtain ⟨ρ, o, ρ', M, e1, w, z⟩ := z
  simp only [ev] at e1
  split at e1
  · rename_i os ρ1 h1
    split at e1
    · rename_i o' h2
      cases e1
      refine ⟨ρ, _, ρ', M, h1, w, fun v H1 w1 => ?_⟩
      obtain ⟨c, w2⟩ := w1
      obtain ⟨a, vs, rfl, ha, l, w3⟩ := Wd.openT (L := M ++ live ρ' σ) w2
      obtain ⟨u, T, U, h3, h4⟩ := ens_at l h2
      refine .inr (.inl ⟨a, vs, j, u, rfl, rfl, .of ha, atI_nat h3, z u H1 ⟨c, ?_⟩⟩)
      have w4 := w3.drop
      rw [h4, List.append_assoc] at w4
      have w5 := Wd.dropL T w4
      have pm : ((some o, u) :: U ++ (M ++ live ρ' σ)).Perm (U ++ ((some o, u) :: (M ++ live ρ' σ))) := List.perm_middle.symm
      exact Wd.dropL U (w5.perm pm)
    · cases e1
  · rename_i ds ρ1 h1
    split at e1
    · rename_i d h2
      cases e1
      refine ⟨ρ, _, ρ', M, h1, w, fun v H1 w1 => ?_⟩
      obtain ⟨G, s, q, cl⟩ := w1.sub
      simp only [Sh] at q
      obtain ⟨a, vs, rfl, ha, hq⟩ := q
      obtain ⟨u, h3, q3⟩ := hq.get h2
      exact .inr (.inl ⟨a, vs, j, u, rfl, rfl, s.sqT ha, atI_nat h3, z u H1 (cl d u q3)⟩)
    · cases e1
  · cases e1

/-! ### slices -/
def tP (K : Frag) (C : Cal) : List T → TO
  | [] => tNoPart
  | [τ] => tPart (tO K C τ)
  | _ => fun _ _ _ => False
theorem part_run {los : List T} {ys : List Opd} {ρ2 : Env} {lo : Option Int} {R : Option Int → Hp → Prop} (h1 : evOs C los ρ = some (ys, ρ2)) (h2 : partOf ρ2 ys = some lo) (w : Ws K H N ρ σ) (q : ∀ H', Ws K H' N ρ2 σ → R lo H') : tP K C los σ H R := by
  match los, ys, evOs_len h1 with
  | [], [], _ =>
    simp only [evOs] at h1
    cases h1
    simp only [partOf] at h2
    cases h2
    exact q H w
  | [τ], [y], _ =>
    show tOs K C [τ] σ H fun vs H1 => ∃ i, vs.getD 0 .non = .int i ∧ R (some i) H1
    refine opds h1 w fun vs H' a w1 => ?_
    simp only [partOf] at h2
    split at h2
    · rename_i i h3
      cases h2
      obtain ⟨G, s, f, _⟩ := w1.look (os := [.sh (.int i)]) Tin.pushes a (by simp only [rdOs, h3, O.isFlat, if_true])
      obtain ⟨x, rfl, hx⟩ := f.one
      cases hx.int
      exact ⟨i, rfl, q H' w1.pops⟩
    · cases h2
  | _ :: _ :: _, ys, l =>
    match ys, l with
    | _ :: _ :: _, _ => simp only [partOf] at h2; cases h2
theorem s_sl {lo hi : Option Expr} {p2 : Pos} {los his : List T} (ha : SO X C a τ) (hl : PO X lo (tP X.K C los)) (hh : PO X hi (tP X.K C his)) : SE X C (.Subscript a (.Slice lo hi none p2) pos) (.sl [τ] los his) := PE.imp (pe_slice o_cut ha hl hh) fun σ H Q z => by
  obtain ⟨ρ, o, ρ', M, e1, w, z⟩ := z
  simp only [ev] at e1
  split at e1
  · rename_i x ρ1 h1
    split at e1
    · rename_i ys ρ2 h2
      split at e1
      · rename_i lo' h3
        split at e1
        · rename_i zs ρ3 h4
          split at e1
          · rename_i hi' h5
            split at e1
            · rename_i oo h6
              split at e1
              · rename_i r h7
                cases e1
                show tOs X.K C [τ] σ H fun vs H1 => tP X.K C los σ H1 fun l H2 => tP X.K C his σ H2 fun u H3 => rCutA X.K (vs.getD 0 .non) l u H3 Q
                refine opds h1 w fun vs H1 a w1 => part_run h2 h3 w1 fun H2 w2 => part_run h4 h5 w2 fun H3 w3 => ?_
                obtain ⟨G, s, f, cl⟩ := w3.look Tin.pushes a h6
                obtain ⟨v, rfl, hv⟩ := f.one
                exact p_cut h7 s hv fun v' H' pv => z v' H' (cl _ v' H' pv).popsU
              · cases e1
            · cases e1
          · cases e1
        · cases e1
      · cases e1
    · cases e1
  · cases e1
theorem po_nil : PO X none (tP X.K C []) := po_none
theorem po_one (h : SO X C a τ) : PO X (some a) (tP X.K C [τ]) := po_some h

/-! ### methods of what is looked at -/
theorem mth_run {k : OpK} {r : V → List V → Hp → VK → Prop} {ty : V → Hp → Prop} (pr : PrimOk K (rM r) (prim k)) (ht : ∀ (o : O) (G H : Hp) (x : V), mtyp k o = true → Sub G H → Fo K G H o x → ty x H) {Q : VK}
    (h : tS K C (.mth k τ τs) σ H Q) : tO K C τ σ H fun x H1 => ty x H1 ∧ tOs K C τs σ H1 fun xs H2 => r x xs H2 Q := by
  obtain ⟨ρ, o, ρ', M, e1, w, z⟩ := h
  simp only [ev] at e1
  split at e1
  · rename_i i hi
    have hi := isNm_some hi
    subst hi
    split at e1
    · rename_i o0 h1
      split at e1
      · rename_i hm
        split at e1
        · rename_i xs ρ2 h2
          split at e1
          · rename_i os h3
            split at e1
            · rename_i o' h4
              cases e1
              have h5 : ρ[i]? = some (some o0) := by
                simp only [rdOs] at h1
                split at h1
                · rename_i o2 os2 h4 h5
                  split at h1
                  · cases h5
                    cases h1
                    exact rdO_sl h4
                  · cases h1
                · cases h1
              obtain ⟨v, hv, _⟩ := w.1.take h5
              obtain ⟨G, s, f, _⟩ := w.look (xs := [.sl i]) (vs := [v]) (by simp only [Tin]) ⟨v, [], rfl, hv, rfl⟩ h1
              obtain ⟨x, e2, hx⟩ := f.one
              cases e2
              refine ⟨v, hv, ht o0 G H v hm s hx, opds h2 w fun vs H2 a w2 => ?_⟩
              obtain ⟨G2, s2, f2, cl2⟩ := w2.look (xs := .sl i :: xs) (vs := v :: vs) (by simp only [Tin]; exact Tin.pushes) ⟨v, vs, rfl, hv, a⟩ h3
              exact pr os _ h4 G2 H2 _ Q s2 f2 fun v' H' pv => z v' H' (cl2 _ v' H' pv).popsU
            · cases e1
          · cases e1
        · cases e1
      · cases e1
    · cases e1
  · rename_i hi
    split at e1
    · rename_i o0 ρ1 h1
      split at e1
      · rename_i hm
        simp only [Bool.and_eq_true] at hm
        split at e1
        · rename_i xs ρ2 h2
          split at e1
          · rename_i os h3
            split at e1
            · rename_i o' h4
              cases e1
              rw [tO_tS hi]
              refine ⟨ρ, o0, ρ1, M, h1, w, fun v H1 w1 => ?_⟩
              obtain ⟨G, s, f, _⟩ := w1.look (xs := [.tv o0]) (vs := [v]) (os := [o0]) (by simp only [Tin]; exact ⟨List.mem_cons_self, trivial⟩) ⟨v, [], rfl, rfl⟩ (by simp only [rdOs, rdO, hm.1, if_true])
              obtain ⟨x, e2, hx⟩ := f.one
              cases e2
              refine ⟨ht o0 G H1 v hm.2 s hx, opds h2 w1 fun vs H2 a w2 => ?_⟩
              obtain ⟨G2, s2, f2, cl2⟩ := w2.look (xs := .tv o0 :: xs) (vs := v :: vs) (by simp only [Tin]; exact ⟨pushes_mem List.mem_cons_self, Tin.pushes⟩) ⟨v, vs, rfl, a⟩ h3
              exact pr os _ h4 G2 H2 _ Q s2 f2 fun v' H' pv => z v' H' (cl2 _ v' H' pv).popsU.under
            · cases e1
          · cases e1
        · cases e1
      · cases e1
    · cases e1
theorem ty_str {k : OpK} (hk : k = .join ∨ k = .find ∨ k = .find3 ∨ k = .split ∨ k = .startswith) (o : O) (G H : Hp) (x : V) (h : mtyp k o = true) (_ : Sub G H) (f : Fo K G H o x) : tyV K "str" x H := by
  have : ∃ z, o = .sh (.str z) := by
    rcases hk with rfl | rfl | rfl | rfl | rfl <;>
      (cases o with
        | sh d => cases d <;> first | exact ⟨_, rfl⟩ | exact absurd (show false = true from h) Bool.false_ne_true
        | _ => exact absurd (show false = true from h) Bool.false_ne_true)
  obtain ⟨z, rfl⟩ := this
  cases f.str
  rfl
theorem s_strM {o : Expr} {name : Str} {apos cpos : Pos} {id : String} {r : V → List V → Hp → VK → Prop} {k : OpK} (slot : Slot "str" name id) (hty : typeOf (.builtin id) = pure (.type "method_descriptor")) (hm : MtR X id r) (pr : PrimOk X.K (rM r) (prim k)) (hk : k = .join ∨ k = .find ∨ k = .find3 ∨ k = .split ∨ k = .startswith)
    (ho : SO X C o τ) (ha : SOs X C (e :: es) τs) (hbase : attributeBase o name X.env (eval o X.env) = eval o X.env)
    (hfew : ((backTo cpos (starEach (e :: es) X.env)).all (fun x => !x.1) && (backToKw cpos (keywordEach [] X.env)).all (fun x => x.1.isSome)
      && decide ((e :: es).length + ([] : List Keyword).length + (if ([] : List Keyword).isEmpty then 0 else 1) < 30)) = true)
    (hline : (apos.endLine == cpos.line) = true) (hs : starEach (e :: es) X.env = (false, eval e X.env) :: starEach es X.env) (hplain : (backTo cpos (starEach es X.env)).any (·.1) = false) :
    SE X C (.Call (.Attribute o name apos) (e :: es) [] cpos) (.mth k τ τs) :=
  PE.imp (pe_bm PySem.F.plainAttrs_str slot hty hm ho ha hbase hfew hline hs hplain) fun σ H Q z => mth_run pr (ty_str hk) z
end
end Qv
end
section
set_option Elab.async false
set_option linter.all false
set_option maxRecDepth 100000
set_option maxHeartbeats 1000000
/-! Q8: changes of a slot's list, calls, targets, walks, comprehensions. -/
namespace Qv
open PySem PySem.Spec PyProof.Rows L2

section
variable {X : Cx} {C : Cal} {e a b c : Expr} {es : List Expr} {τ τa τb τc : T} {τs : List T} {pos p pos' : Pos}
variable {K : Frag} {H : Hp} {ρ : Env} {σ : L2.St} {M N : List En}

/-! ### a slot's list changes -/
theorem Ws.shell {i : Nat} {os : List O} (h : Ws K H M ρ σ) (e : rdO ρ (.sl i) = some (.ol os)) :
    ∃ a vs, σ[i]? = some (some (.ref a)) ∧ H a = some (.lst vs) ∧ os.length = vs.length ∧ Cov (ρ.set i none) σ ∧ Wd K H ((none, .ref a) :: (ens os vs ++ (M ++ live (ρ.set i none) σ))) := by
  obtain ⟨v, hv, w⟩ := h.take (rdO_sl e)
  obtain ⟨c, w⟩ := w
  obtain ⟨a, vs, rfl, ha, l, w2⟩ := Wd.open (L := M ++ live (ρ.set i none) σ) w
  exact ⟨a, vs, hv, ha, l, c, w2⟩
/-- .. and is put back, with other items -/
theorem Ws.refill {i : Nat} {os os' : List O} {a : Addr} {ws : List V} (e : rdO ρ (.sl i) = some (.ol os)) (hv : σ[i]? = some (some (.ref a))) (c : Cov (ρ.set i none) σ)
    (w : Wd K H ((none, .ref a) :: (ens os' ws ++ (M ++ live (ρ.set i none) σ)))) (l : os'.length = ws.length) : Ws K (upd H a (.lst ws)) M (ρ.set i (some (.ol os'))) σ := by
  have q := Wd.close w l
  have w2 : Ws K (upd H a (.lst ws)) ((some (.ol os'), .ref a) :: M) (ρ.set i none) σ := ⟨c, q⟩
  have h := rdO_sl e
  have q2 := w2.give (get_set h) hv
  rw [set_set] at q2
  exact q2
theorem ens_append : ∀ {os os' : List O} {vs ws : List V}, os.length = vs.length → ens (os ++ os') (vs ++ ws) = ens os vs ++ ens os' ws
  | [], _, [], _, _ => rfl
  | o :: os, os', v :: vs, ws, l => by
    show (some o, v) :: ens (os ++ os') (vs ++ ws) = _
    rw [ens_append (by simpa using l)]
    rfl
  | [], _, _ :: _, _, l => by cases l
  | _ :: _, _, [], _, l => by cases l
theorem app_run {i : Nat} {Q : VK} (h : tS K C (.app i τ) σ H Q) : tVar i σ H fun x H1 => tyV K "list" x H1 ∧ tS K C τ σ H1 fun y H2 => rAppend x [y] H2 Q := by
  obtain ⟨ρ, o, ρ', M, e1, w, z⟩ := h
  simp only [ev] at e1
  split at e1
  · rename_i os0 h1
    obtain ⟨a0, vs0, hv, ha, _, _, _⟩ := w.shell h1
    refine ⟨_, hv, .inl ⟨rfl, vs0, .of ha⟩, ?_⟩
    split at e1
    · rename_i o1 ρ1 h2
      split at e1
      · rename_i os h3
        split at e1
        · rename_i hl
          cases e1
          refine ⟨ρ, o1, ρ1, M, h2, w, fun y H2 w2 => ?_⟩
          obtain ⟨a, vs, hv2, ha2, l, c, w3⟩ := w2.fz.shell h3
          rw [hv] at hv2
          cases hv2
          refine ⟨a0, vs, y, rfl, rfl, ha2, by rw [← l]; exact hl, z _ _ ?_⟩
          have l2 : (os ++ [O.sh o1.d]).length = (vs ++ [y]).length := by
            rw [List.length_append, List.length_append, l]
            rfl
          refine (Ws.refill (M := M) h3 hv c ?_ l2).flat fun _ => by simp only [Sh]
          rw [ens_append l, List.append_assoc]
          refine w3.perm (.cons _ ?_)
          exact .refl _
        · cases e1
      · cases e1
    · cases e1
  · cases e1
/-- the items of a list that is looked at, on the stack -/
theorem Ws.kids {x : Opd} {v : V} {o : O} {ds : List PyData} (h : Ws K H N ρ σ) (t : Tin [x] [v] N) (a : Ats [x] [v] σ) (e : rdOs ρ [x] = some [o]) (el : o.list? = some ds) :
    ∃ b ws, v = .ref b ∧ H b = some (.lst ws) ∧ ds.length = ws.length ∧ Ws K H (ens (ds.map O.sh) ws ++ N) ρ σ := by
  obtain ⟨c, G, A, s, q, n, f⟩ := h
  have fo := fo_of c q (fun _ z => List.mem_append_right _ z) (t.mono fun _ z => List.mem_append_left _ z) a e
  obtain ⟨x, e2, hx⟩ := fo.one
  cases e2
  obtain ⟨b, ws, rfl, hb, hs⟩ := Fo.list el s hx
  refine ⟨b, ws, rfl, hb, hs.len, c, G, A, s, ?_, n, f⟩
  rw [List.append_assoc]
  have q2 := PL.join (ens (ds.map O.sh) ws) (N ++ live ρ σ) [] A (OwL.pl (OwL.of_sh hs)).1 q
  exact q2
theorem ext_run {i : Nat} {Q : VK} (h : tS K C (.ext i [τ]) σ H Q) : tVar i σ H fun x H1 => tyV K "list" x H1 ∧ tO K C τ σ H1 fun y H2 => rExtend x [y] H2 Q := by
  obtain ⟨ρ, o, ρ', M, e1, w, z⟩ := h
  simp only [ev] at e1
  split at e1
  · rename_i os0 h1
    obtain ⟨a0, vs0, hv, ha, _, _, _⟩ := w.shell h1
    refine ⟨_, hv, .inl ⟨rfl, vs0, .of ha⟩, ?_⟩
    split at e1
    · rename_i x ρ1 h2
      split at e1
      · rename_i os oo h3 h4
        split at e1
        · rename_i ds h5
          split at e1
          · rename_i hl
            cases e1
            show tOs K C [τ] σ H fun vs H2 => rExtend (.ref a0) [vs.getD 0 .non] H2 Q
            refine opds h2 w fun vs H2 a w2 => ?_
            obtain ⟨v, rfl⟩ : ∃ v, vs = [v] := match vs, a.len with
              | [v], _ => ⟨v, rfl⟩
            obtain ⟨b, ws, e2, hb, lb, w3⟩ := w2.kids Tin.pushes a h4 h5
            have e2 : v = .ref b := e2
            subst e2
            obtain ⟨T, hT⟩ := pushes_suffix [x] [V.ref b] M
            rw [hT] at w3
            have w4 : Ws K H2 (ens (ds.map O.sh) ws ++ M) ρ1 σ := by
              have p : (ens (ds.map O.sh) ws ++ (T ++ M)).Perm (T ++ (ens (ds.map O.sh) ws ++ M)) := by
                rw [← List.append_assoc, ← List.append_assoc]
                exact (List.perm_append_comm).append_right M
              exact (w3.mono p).dropL T
            obtain ⟨a1, vs, hv2, ha2, l, c, w5⟩ := w4.shell h3
            rw [hv] at hv2
            cases hv2
            refine ⟨a0, b, vs, ws, rfl, rfl, ha2, hb, by rw [← l, ← lb]; exact hl, z _ _ ?_⟩
            have l2 : (os ++ ds.map O.sh).length = (vs ++ ws).length := by
              rw [List.length_append, List.length_append, l, List.length_map, lb]
            refine (Ws.refill (M := M) h3 hv c ?_ l2).flat fun _ => by simp only [Sh]
            rw [ens_append l, List.append_assoc]
            refine w5.perm (.cons _ ?_)
            rw [List.append_assoc]
          · cases e1
        · cases e1
      · cases e1
    · cases e1
  · cases e1
theorem popl_run {i : Nat} {Q : VK} (h : tS K C (.popl i) σ H Q) : tVar i σ H fun x H1 => tyV K "list" x H1 ∧ rPop x [] H1 Q := by
  obtain ⟨ρ, o, ρ', M, e1, w, z⟩ := h
  simp only [ev] at e1
  split at e1
  · rename_i os h1
    obtain ⟨a, vs, hv, ha, l, c, w2⟩ := w.shell h1
    refine ⟨_, hv, .inl ⟨rfl, vs, .of ha⟩, ?_⟩
    split at e1
    · rename_i o' h2
      cases e1
      rcases List.eq_nil_or_concat os with rfl | ⟨L, b, rfl⟩
      · simp at h2
      · rw [List.concat_eq_append] at *
        simp only [List.length_append, List.length_singleton, Nat.add_sub_cancel, List.getElem?_concat_length, Option.some.injEq] at h2
        subst h2
        obtain ⟨ws, u, rfl⟩ : ∃ ws u, vs = ws ++ [u] := by
          rcases List.eq_nil_or_concat vs with rfl | ⟨ws, u, rfl⟩
          · simp at l
          · exact ⟨ws, u, List.concat_eq_append ..⟩
        have l2 : L.length = ws.length := by simpa using l
        refine ⟨a, ws ++ [u], u, rfl, rfl, ha, by simp, ?_⟩
        rw [List.dropLast_concat] at z ⊢
        refine z _ _ ?_
        have w3 : Ws K (upd H a (.lst ws)) ((some b, u) :: M) (ρ.set i (some (.ol L))) σ := by
          refine Ws.refill (M := (some b, u) :: M) h1 hv c ?_ l2
          rw [ens_append l2, List.append_assoc] at w2
          exact w2
        exact w3
    · cases e1
  · cases e1

/-! ### calls of defs -/
/-- a def's promise, for where nobody writes texts of objects -/
structure FnG (P : Program) (w : World) (K : Frag) (mg : Str → Option Value) (base : Heap) (k : Nat) (f : Addr) (fd : FuncData) (ps : List Str) (sp : Sp) : Prop where
  len : ∀ vs H Q E, sp vs H Q E → vs.length = ps.length
  run : ∀ (A : Around) (outer : List PySem.Env) (s : Shared) (H : Hp) (args : Args) (us : List Value) (vs : List V) (Q : VK) (E : XK), Room k A → A.guards = some [] → Env0 P w K mg base A outer s H →
    BindsTo s fd args (ps.zip us) → Vals vs us → sp vs H Q E → codeAny (model P w) A (.call (.ref f) args) (CR CX0 outer P w H s Q E) s
/-- what a def does, as a promise -/
def spF (K : Frag) (F : List O → Option (O × List O)) : Sp := fun vs H Q _ => ∃ os o os2 L, F os = some (o, os2) ∧ os.length = vs.length ∧ Wd K H (ens os vs ++ L) ∧
  ∀ v H', Wd K H' (ens os2 vs ++ (some o, v) :: L) → Q v H'
def ents : List Opd → List V → List En
  | .sl _ :: xs, _ :: vs => ents xs vs
  | .tv o :: xs, v :: vs => (some o, v) :: ents xs vs
  | _, _ => []
theorem pushes_perm : ∀ (xs : List Opd) (vs : List V) (M : List En), (pushes xs vs M).Perm (ents xs vs ++ M)
  | [], _, M => by
    simp only [pushes, ents]
    exact .refl _
  | .sl _ :: xs, [], M => by
    simp only [pushes, ents]
    exact .refl _
  | .tv _ :: xs, [], M => by
    simp only [pushes, ents]
    exact .refl _
  | .sl _ :: xs, _ :: vs, M => by
    simp only [pushes, ents]
    exact pushes_perm xs vs M
  | .tv o :: xs, v :: vs, M => by
    simp only [pushes, ents]
    exact (pushes_perm xs vs _).trans List.perm_middle
theorem lend_run : ∀ {xs : List Opd} {vs : List V} {M : List En} {ρ ρ1 : Env} {os : List O}, Ws K H (ents xs vs ++ M) ρ σ → Ats xs vs σ → lend xs ρ = some (os, ρ1) → os.length = vs.length ∧ Ws K H (ens os vs ++ M) ρ1 σ
  | [], vs, M, ρ, ρ1, os, w, a, e => by
    simp only [lend] at e
    cases e
    have a : vs = [] := a
    subst a
    exact ⟨rfl, w⟩
  | .tv o :: xs, vs, M, ρ, ρ1, os, w, a, e => by
    obtain ⟨v, r, rfl, a⟩ := a
    simp only [lend] at e
    split at e
    · cases e
    · rename_i os' ρ2 h1
      cases e
      have w2 : Ws K H (ents xs r ++ ((some o, v) :: M)) ρ σ := w.mono List.perm_middle.symm
      obtain ⟨l, w3⟩ := lend_run w2 a h1
      exact ⟨by rw [List.length_cons, List.length_cons, l], w3.mono List.perm_middle⟩
  | .sl i :: xs, vs, M, ρ, ρ1, os, w, a, e => by
    obtain ⟨v, r, rfl, hv, a⟩ := a
    simp only [lend] at e
    split at e
    · cases e
    · rename_i os' ρ2 h1
      have w : Ws K H (ents xs r ++ M) ρ σ := w
      obtain ⟨l, w3⟩ := lend_run (M := M) w a h1
      split at e
      · rename_i d h2
        cases e
        refine ⟨by rw [List.length_cons, List.length_cons, l], ?_⟩
        obtain ⟨v2, hv2, w4⟩ := w3.name (o := .sh d) (ρ' := ρ1) (i := i) (by simp only [rdV, h2])
        rw [hv] at hv2
        cases hv2
        exact w4
      · rename_i o h2 h3
        cases e
        refine ⟨by rw [List.length_cons, List.length_cons, l], ?_⟩
        obtain ⟨v2, hv2, w4⟩ := w3.take h3
        rw [hv] at hv2
        cases hv2
        exact w4
      · cases e
theorem back_run : ∀ {xs : List Opd} {vs : List V} {os : List O} {ρ : Env} {M : List En}, Ws K H (ens os vs ++ M) ρ σ → Ats xs vs σ → os.length = vs.length → Ws K H M (back xs os ρ) σ
  | [], vs, os, ρ, M, w, a, l => by
    have a : vs = [] := a
    subst a
    cases os with
    | nil => exact w
    | cons _ _ => cases l
  | .sl i :: xs, vs, os, ρ, M, w, a, l => by
    obtain ⟨v, r, rfl, hv, a⟩ := a
    cases os with
    | nil => cases l
    | cons o os =>
      simp only [back]
      have w : Ws K H ((some o, v) :: (ens os r ++ M)) ρ σ := w
      refine back_run (vs := r) ?_ a (by simpa using l)
      split
      · rename_i h1
        exact w.give h1 hv
      · exact w.drop
  | .tv _ :: xs, vs, os, ρ, M, w, a, l => by
    obtain ⟨v, r, rfl, a⟩ := a
    cases os with
    | nil => cases l
    | cons o os =>
      simp only [back]
      have w : Ws K H ((some o, v) :: (ens os r ++ M)) ρ σ := w
      exact back_run (vs := r) w.drop a (by simpa using l)
/-- .. from operands on the stack to what the callee promises -/
theorem call_mid {xs : List Opd} {vs : List V} {ρ2 : Env} {os os2 : List O} {o : O} {F : List O → Option (O × List O)} {Q : VK} {E : XK} (w : Ws K H (ents xs vs ++ M) ρ σ) (a : Ats xs vs σ) (hl : lend xs ρ = some (os, ρ2)) (hF : F os = some (o, os2)) (h2 : os2.length = os.length)
    (z : ∀ v H', Ws K H' ((some o, v) :: M) (back xs os2 ρ2) σ → Q v H') : spF K F vs H Q E := by
  obtain ⟨l, c, w2⟩ := lend_run w a hl
  refine ⟨os, o, os2, M ++ live ρ2 σ, hF, l, by rw [← List.append_assoc]; exact w2, fun v H' w3 => z v H' ?_⟩
  have w4 : Ws K H' (ens os2 vs ++ ((some o, v) :: M)) ρ2 σ := ⟨c, by rw [List.append_assoc]; exact w3⟩
  exact back_run w4 a (by rw [h2, l])
/-- each def hands back as many as it was lent -/
def Fair (C : Cal) : Prop := ∀ f os o os2, C f os = some (o, os2) → os2.length = os.length
section
variable {k : Nat} {f : Addr} {fd : FuncData} {ps ks : List Str} {sp : Sp} {x : Str} {j : Nat}
theorem run_fnG {pins : List (Addr × Obj)} {s : Shared} {Q : VK} {E : XK} {args : Args} {us : List Value} {vs : List V} (F : FnG X.prog X.w X.K X.mg X.base k f fd ps sp) (hr : Room k X.A) (hg : X.A.guards = some []) (I : Inv X pins σ H s) (hb : BindsTo s fd args (ps.zip us)) (r : Vals vs us) (h : sp vs H Q E) :
    codeAny (model X.prog X.w) X.A (.call (.ref f) args) (fun r s' => match r with
      | .ok (.ret u) => EP X pins σ Q u s'
      | _ => False) s := by
  refine codeAny_mono (F.run X.A X.stack s H args us vs Q E hr hg I.env0 hb r h) fun r s' hq => ?_
  cases r with
  | error e => exact hq
  | ok fl =>
    cases fl with
    | ret u => exact I.after hq
    | next => exact hq
    | brk => exact hq
    | cont => exact hq
theorem call_wp {pins : List (Addr × Obj)} {s : Shared} {Q : VK} {us : List Value} {kw : List (Str × Value)} (h : codeAny (model X.prog X.w) X.A (.call (.ref f) ⟨us, kw⟩) (fun r s' => match r with
      | .ok (.ret u) => EP X pins σ Q u s'
      | _ => False) s) : wpAny (model X.prog X.w) X.A (call (.ref f) us kw) (EP X pins σ Q) X.xe s := by
  refine wpAny_call (codeAny_mono h fun r s' hq => ?_)
  cases r with
  | error e => exact hq.elim
  | ok fl =>
    cases fl with
    | ret u => exact hq
    | next => exact hq.elim
    | brk => exact hq.elim
    | cont => exact hq.elim
theorem pe_callG (F : FnG X.prog X.w X.K X.mg X.base k f fd ps sp) (hr : Room k X.A) (hgd : X.A.guards = some []) (hg : Gl X x) (hm : X.mg x = some (.ref f)) (hk : PySem.W.keepIn X.K (.ref f) = true)
    (hb : ∀ (s : Shared) (us : List Value), us.length = ps.length → BindsTo s fd ⟨us, []⟩ (ps.zip us)) {t : TA} (ha : PA X (e :: es) t) (hdb : (x == ("__debug__" : Str)) = false) (he : starEach (e :: es) X.env = (false, eval e X.env) :: starEach es X.env)
    (hpl : (backTo pos (starEach es X.env)).any (·.1) = false) : PE X (.Call (.Name x p) (e :: es) [] pos) (fun σ H Q => t σ H fun vs H1 => sp vs H1 Q E0) := by
  refine ⟨fun pins s σ H Q I h => ?_⟩
  refine wpAny_Call_Name_kw (ld_glob I hg hm ?_ hdb)
  refine PySem.W.callWith_K (h₀ := X.base) I.ok.mod.kin hk (thn (ha.run pos pins s σ H _ I h) fun us s1 ⟨vs, H1, I1, r, q⟩ => ⟨I1.kIn, ?_⟩) he hpl
  exact call_wp (run_fnG F hr hgd I1 (hb s1 us (by rw [← r.length]; exact F.len _ _ _ _ q)) r q)
theorem pe_callG0 (F : FnG X.prog X.w X.K X.mg X.base k f fd ps sp) (hr : Room k X.A) (hgd : X.A.guards = some []) (hg : Gl X x) (hm : X.mg x = some (.ref f)) (hk : PySem.W.keepIn X.K (.ref f) = true)
    (hb : ∀ (s : Shared) (us : List Value), us.length = ps.length → BindsTo s fd ⟨us, []⟩ (ps.zip us)) (hdb : (x == ("__debug__" : Str)) = false) : PE X (.Call (.Name x p) [] [] pos) (fun σ H Q => sp [] H Q E0) := by
  refine ⟨fun pins s σ H Q I h => ?_⟩
  refine wpAny_Call_Name_kw (ld_glob I hg hm ?_ hdb)
  exact PySem.W.callWith_K0 I.kIn hk (call_wp (run_fnG F hr hgd I (hb s [] (F.len _ _ _ _ h)) .nil h))
/-- a call with keywords: pm tells where each parameter's value stands among what is written -/
def KwB (fd : FuncData) (ps ks : List Str) (n : Nat) (pm : List Nat) : Prop := ∀ (s : Shared) (us ws : List Value), us.length = n → ws.length = ks.length → BindsTo s fd ⟨us, ks.zip ws⟩ (ps.zip (permL pm (us ++ ws)))
theorem Vals.perm {vs : List V} {us : List Value} (r : Vals vs us) : ∀ pm : List Nat, Vals (permL pm vs) (permL pm us)
  | [] => .nil
  | j :: pm => by
    unfold permL
    rw [List.filterMap_cons, List.filterMap_cons]
    cases q : vs[j]? with
    | none =>
      rw [r.none_of q]
      exact Vals.perm r pm
    | some v =>
      obtain ⟨u, e, ru⟩ := r.get q
      rw [e]
      exact .cons ru (Vals.perm r pm)
variable {kws : List Keyword} {n : Nat} {pm : List Nat}
theorem pe_callGK (F : FnG X.prog X.w X.K X.mg X.base k f fd ps sp) (hr : Room k X.A) (hgd : X.A.guards = some []) (hg : Gl X x) (hm : X.mg x = some (.ref f)) (hk : PySem.W.keepIn X.K (.ref f) = true)
    (hb : KwB fd ps ks (e :: es).length pm) {t tk : TA} (ha : PA X (e :: es) t) (hkw : PK X kws tk)
    (hall : (backToKw pos (keywordEach kws X.env)).all (·.1.isSome) = true) (hks : (backToKw pos (keywordEach kws X.env)).filterMap (·.1) = ks)
    (hdb : (x == ("__debug__" : Str)) = false) (he : starEach (e :: es) X.env = (false, eval e X.env) :: starEach es X.env)
    (hpl : ((backTo pos (starEach (e :: es) X.env)).any (·.1) || (backToKw pos (keywordEach kws X.env)).any (·.1.isNone)) = false) :
    PE X (.Call (.Name x p) (e :: es) kws pos) (fun σ H Q => t σ H fun vs H1 => vs.length = (e :: es).length ∧ tk σ H1 fun zs H2 => zs.length = ks.length ∧ sp (permL pm (vs ++ zs)) H2 Q E0) := by
  refine ⟨fun pins s σ H Q I h => ?_⟩
  refine wpAny_Call_Name_kw (ld_glob I hg hm ?_ hdb)
  refine PySem.W.callWith_KW (h₀ := X.base) I.ok.mod.kin hk hall (thn (ha.run pos pins s σ H _ I h) fun us s1 ⟨vs, H1, I1, r, l1, q⟩ => ?_) hpl he
  refine thn (hkw.run pos pins s1 σ H1 _ I1 q) fun ws s2 ⟨zs, H2, I2, rz, l2, q2⟩ => ⟨I2.kIn, ?_⟩
  rw [hks]
  exact call_wp (run_fnG F hr hgd I2 (hb s2 us ws (by rw [← r.length, l1]) (by rw [← rz.length, l2])) (Qv.Vals.perm (r.append rz) pm) q2)
theorem pe_callGK0 (F : FnG X.prog X.w X.K X.mg X.base k f fd ps sp) (hr : Room k X.A) (hgd : X.A.guards = some []) (hg : Gl X x) (hm : X.mg x = some (.ref f)) (hk : PySem.W.keepIn X.K (.ref f) = true)
    (hb : KwB fd ps ks 0 pm) {tk : TA} (hkw : PK X kws tk)
    (hall : (backToKw pos (keywordEach kws X.env)).all (·.1.isSome) = true) (hks : (backToKw pos (keywordEach kws X.env)).filterMap (·.1) = ks)
    (hdb : (x == ("__debug__" : Str)) = false) (hpl : ((backTo pos (starEach [] X.env)).any (·.1) || (backToKw pos (keywordEach kws X.env)).any (·.1.isNone)) = false) :
    PE X (.Call (.Name x p) [] kws pos) (fun σ H Q => tk σ H fun zs H2 => zs.length = ks.length ∧ sp (permL pm zs) H2 Q E0) := by
  refine ⟨fun pins s σ H Q I h => ?_⟩
  refine wpAny_Call_Name_kw (ld_glob I hg hm ?_ hdb)
  refine PySem.W.callWith_KW0 (h₀ := X.base) I.ok.mod.kin hk hall (thn (hkw.run pos pins s σ H _ I h) fun ws s2 ⟨zs, H2, I2, rz, l2, q2⟩ => ⟨I2.kIn, ?_⟩) hpl
  rw [hks]
  exact call_wp (run_fnG F hr hgd I2 (hb s2 [] ws rfl (by rw [← rz.length, l2])) (Qv.Vals.perm rz pm) q2)
end
end
end Qv
end
section
set_option Elab.async false
set_option linter.all false
set_option maxRecDepth 100000
set_option maxHeartbeats 1000000
/-! Q9: calls as terms; targets; walks; comprehensions. -/
namespace Qv
open PySem PySem.Spec PyProof.Rows L2

section
variable {X : Cx} {C : Cal} {e a b c : Expr} {es : List Expr} {τ τa τb τc : T} {τs κs : List T} {pos p pos' : Pos}
variable {K : Frag} {H : Hp} {ρ : Env} {σ : L2.St} {M N : List En}

theorem tO_mono {Q Q' : VK} (h : tO K C τ σ H Q) (m : ∀ v H', Q v H' → Q' v H') : tO K C τ σ H Q' := by
  cases hi : isNm τ with
  | some i =>
    have hi := isNm_some hi
    subst hi
    obtain ⟨v, e, q⟩ := h
    exact ⟨v, e, m v H q⟩
  | none =>
    rw [tO_tS hi] at h ⊢
    obtain ⟨ρ, o, ρ', M, e1, w, z⟩ := h
    exact ⟨ρ, o, ρ', M, e1, w, fun v H' w' => m v H' (z v H' w')⟩
theorem tOs_mono : ∀ {τs : List T} {H : Hp} {R R' : List V → Hp → Prop}, tOs K C τs σ H R → (∀ vs H', R vs H' → R' vs H') → tOs K C τs σ H R'
  | [], H, R, R', h, m => m [] H h
  | τ :: τs, H, R, R', h, m => tO_mono (τ := τ) h fun v H1 h1 => tOs_mono (τs := τs) h1 fun vs H2 h2 => m (v :: vs) H2 h2
theorem tOs_len : ∀ {τs : List T} {H : Hp} {R : List V → Hp → Prop}, tOs K C τs σ H R → tOs K C τs σ H fun vs H1 => vs.length = τs.length ∧ R vs H1
  | [], H, R, h => ⟨rfl, h⟩
  | τ :: τs, H, R, h => tO_mono (τ := τ) h fun v H1 h1 => tOs_mono (tOs_len (τs := τs) h1) fun vs H2 h2 => ⟨by rw [List.length_cons, List.length_cons, h2.1], h2.2⟩
theorem tOs_app : ∀ {τs : List T} {H : Hp} {R : List V → Hp → Prop}, tOs K C (τs ++ κs) σ H R → tOs K C τs σ H fun vs H1 => tOs K C κs σ H1 fun zs H2 => R (vs ++ zs) H2
  | [], H, R, h => h
  | τ :: τs, H, R, h => tO_mono (τ := τ) h fun v H1 h1 => tOs_app (τs := τs) h1

theorem Ats.get : ∀ {xs : List Opd} {vs : List V} {j : Nat} {x : Opd}, Ats xs vs σ → xs[j]? = some x → ∃ v, vs[j]? = some v ∧ Ats [x] [v] σ
  | [], _, _, _, _, h => by simp at h
  | .sl i :: xs, vs, 0, x, a, h => by
    obtain ⟨v, r, rfl, e, a⟩ := a
    simp at h
    subst h
    exact ⟨v, rfl, v, [], rfl, e, rfl⟩
  | .tv o :: xs, vs, 0, x, a, h => by
    obtain ⟨v, r, rfl, a⟩ := a
    simp at h
    subst h
    exact ⟨v, rfl, v, [], rfl, rfl⟩
  | .sl i :: xs, vs, j + 1, x, a, h => by
    obtain ⟨v, r, rfl, e, a⟩ := a
    obtain ⟨w, h1, h2⟩ := Ats.get (j := j) a (by simpa using h)
    exact ⟨w, by simpa using h1, h2⟩
  | .tv o :: xs, vs, j + 1, x, a, h => by
    obtain ⟨v, r, rfl, a⟩ := a
    obtain ⟨w, h1, h2⟩ := Ats.get (j := j) a (by simpa using h)
    exact ⟨w, by simpa using h1, h2⟩
theorem Ats.perm {ys : List Opd} {vs : List V} (a : Ats ys vs σ) : ∀ {pm : List Nat}, (∀ j ∈ pm, j < ys.length) → Ats (permL pm ys) (permL pm vs) σ
  | [], _ => rfl
  | j :: pm, h => by
    have hj := h j List.mem_cons_self
    obtain ⟨v, e, q⟩ := a.get (List.getElem?_eq_getElem hj)
    have ih := Ats.perm a (pm := pm) fun i hi => h i (List.mem_cons_of_mem _ hi)
    have e1 : permL (j :: pm) ys = ys[j] :: permL pm ys := by
      unfold permL
      rw [List.filterMap_cons, List.getElem?_eq_getElem hj]
    have e2 : permL (j :: pm) vs = v :: permL pm vs := by
      unfold permL
      rw [List.filterMap_cons, e]
    rw [e1, e2]
    exact q.append ih
def entf (p : Opd × V) : Option En := match p with
  | (.tv o, v) => some (some o, v)
  | _ => none
theorem ents_eq : ∀ (xs : List Opd) (vs : List V), ents xs vs = (xs.zip vs).filterMap entf
  | [], _ => by simp [ents]
  | .sl _ :: xs, [] => by simp [ents]
  | .tv _ :: xs, [] => by simp [ents]
  | .sl i :: xs, v :: vs => by
    simp only [ents, List.zip_cons_cons, List.filterMap_cons, entf]
    exact ents_eq xs vs
  | .tv o :: xs, v :: vs => by
    simp only [ents, List.zip_cons_cons, List.filterMap_cons, entf, ents_eq xs vs]
theorem permL_zip {xs : List Opd} {vs : List V} (l : xs.length = vs.length) : ∀ {pm : List Nat}, (∀ j ∈ pm, j < xs.length) → (permL pm xs).zip (permL pm vs) = permL pm (xs.zip vs)
  | [], _ => rfl
  | j :: pm, h => by
    have hj := h j List.mem_cons_self
    have ih := permL_zip l (pm := pm) fun i hi => h i (List.mem_cons_of_mem _ hi)
    have hz : j < (xs.zip vs).length := by rw [List.length_zip, ← l]; omega
    have g1 : permL (j :: pm) xs = xs[j] :: permL pm xs := by
      unfold permL
      rw [List.filterMap_cons, List.getElem?_eq_getElem hj]
    have g2 : permL (j :: pm) vs = vs[j]'(by omega) :: permL pm vs := by
      unfold permL
      rw [List.filterMap_cons, List.getElem?_eq_getElem (by omega : j < vs.length)]
    have g3 : permL (j :: pm) (xs.zip vs) = (xs.zip vs)[j] :: permL pm (xs.zip vs) := by
      unfold permL
      rw [List.filterMap_cons, List.getElem?_eq_getElem hz]
    rw [g1, g2, g3, List.zip_cons_cons, ih, List.getElem_zip]
theorem permL_range {α : Type} : ∀ l : List α, permL (List.range l.length) l = l := fun l => by
  unfold permL
  apply List.ext_getElem?
  intro i
  have : ∀ n, n ≤ l.length → (List.range n).filterMap (fun j => l[j]?) = l.take n := by
    intro n
    induction n with
    | zero => intro _; simp
    | succ n ih =>
      intro h
      rw [List.range_succ, List.filterMap_append, ih (by omega), List.take_add_one]
      simp [List.getElem?_eq_getElem (show n < l.length by omega)]
  rw [this _ (Nat.le_refl _), List.take_length]
theorem ents_perm {xs : List Opd} {vs : List V} {pm : List Nat} (l : xs.length = vs.length) (h : pm.Perm (List.range xs.length)) : (ents (permL pm xs) (permL pm vs)).Perm (ents xs vs) := by
  have hj : ∀ j ∈ pm, j < xs.length := fun j hj => by simpa using h.mem_iff.mp hj
  rw [ents_eq, ents_eq, permL_zip l hj]
  refine List.Perm.filterMap _ ?_
  have e := permL_range (xs.zip vs)
  have p : (permL pm (xs.zip vs)).Perm (permL (List.range (xs.zip vs).length) (xs.zip vs)) := by
    unfold permL
    refine List.Perm.filterMap _ ?_
    rw [List.length_zip, ← l, Nat.min_self]
    exact h
  rwa [e] at p

section
variable {k : Nat} {f : Addr} {fd : FuncData} {ps ks : List Str} {x : Str} {j : Nat}
theorem call_out {Q : VK} (hf : Fair C) (h : tS K C (.call j τs) σ H Q) : tOs K C τs σ H fun vs H1 => spF K (C j) vs H1 Q E0 := by
  obtain ⟨ρ, o, ρ', M, e1, w, z⟩ := h
  simp only [ev] at e1
  split at e1
  · rename_i xs ρ1 h1
    split at e1
    · rename_i os ρ2 h2
      split at e1
      · rename_i o' os2 h3
        cases e1
        refine opds h1 w fun vs H' a w' => ?_
        exact call_mid (M := M) (w'.mono (pushes_perm xs vs M)) a h2 h3 (hf _ _ _ _ h3) z
      · cases e1
    · cases e1
  · cases e1
theorem callk_out {Q : VK} {pm : List Nat} (hf : Fair C) (hp : pm.Perm (List.range τs.length)) (h : tS K C (.callk j τs pm) σ H Q) : tOs K C τs σ H fun vs H1 => spF K (C j) (permL pm vs) H1 Q E0 := by
  obtain ⟨ρ, o, ρ', M, e1, w, z⟩ := h
  simp only [ev] at e1
  split at e1
  · rename_i xs ρ1 h1
    split at e1
    · rename_i os ρ2 h2
      split at e1
      · rename_i o' os2 h3
        cases e1
        refine opds h1 w fun vs H' a w' => ?_
        have hp2 : pm.Perm (List.range xs.length) := by rw [evOs_len h1]; exact hp
        have pp := ents_perm a.len hp2
        exact call_mid (M := M) ((w'.mono (pushes_perm xs vs M)).mono (pp.symm.append_right M)) (a.perm fun j hj => by simpa using hp2.mem_iff.mp hj) h2 h3 (hf _ _ _ _ h3) z
      · cases e1
    · cases e1
  · cases e1
theorem s_call (hf : Fair C) (F : FnG X.prog X.w X.K X.mg X.base k f fd ps (spF X.K (C j))) (hr : Room k X.A) (hgd : X.A.guards = some []) (hg : Gl X x) (hm : X.mg x = some (.ref f)) (hk : PySem.W.keepIn X.K (.ref f) = true)
    (hb : ∀ (s : Shared) (us : List Value), us.length = ps.length → BindsTo s fd ⟨us, []⟩ (ps.zip us)) (ha : SOs X C (e :: es) τs) (hdb : (x == ("__debug__" : Str)) = false) (he : starEach (e :: es) X.env = (false, eval e X.env) :: starEach es X.env)
    (hpl : (backTo pos (starEach es X.env)).any (·.1) = false) : SE X C (.Call (.Name x p) (e :: es) [] pos) (.call j τs) :=
  PE.imp (pe_callG F hr hgd hg hm hk hb ha hdb he hpl) fun σ H Q z => call_out hf z
theorem s_call0 (hf : Fair C) (F : FnG X.prog X.w X.K X.mg X.base k f fd ps (spF X.K (C j))) (hr : Room k X.A) (hgd : X.A.guards = some []) (hg : Gl X x) (hm : X.mg x = some (.ref f)) (hk : PySem.W.keepIn X.K (.ref f) = true)
    (hb : ∀ (s : Shared) (us : List Value), us.length = ps.length → BindsTo s fd ⟨us, []⟩ (ps.zip us)) (hdb : (x == ("__debug__" : Str)) = false) : SE X C (.Call (.Name x p) [] [] pos) (.call j []) :=
  PE.imp (pe_callG0 F hr hgd hg hm hk hb hdb) fun σ H Q z => call_out hf z
variable {kws : List Keyword} {pm : List Nat}
theorem s_callk (hf : Fair C) (F : FnG X.prog X.w X.K X.mg X.base k f fd ps (spF X.K (C j))) (hr : Room k X.A) (hgd : X.A.guards = some []) (hg : Gl X x) (hm : X.mg x = some (.ref f)) (hk : PySem.W.keepIn X.K (.ref f) = true)
    (hb : KwB fd ps ks (e :: es).length pm) (ha : SOs X C (e :: es) τs) (hkw : PK X kws (tOs X.K C κs)) (hl1 : τs.length = (e :: es).length) (hl2 : κs.length = ks.length) (hp : pm.Perm (List.range (τs ++ κs).length))
    (hall : (backToKw pos (keywordEach kws X.env)).all (·.1.isSome) = true) (hks : (backToKw pos (keywordEach kws X.env)).filterMap (·.1) = ks)
    (hdb : (x == ("__debug__" : Str)) = false) (he : starEach (e :: es) X.env = (false, eval e X.env) :: starEach es X.env)
    (hpl : ((backTo pos (starEach (e :: es) X.env)).any (·.1) || (backToKw pos (keywordEach kws X.env)).any (·.1.isNone)) = false) :
    SE X C (.Call (.Name x p) (e :: es) kws pos) (.callk j (τs ++ κs) pm) :=
  PE.imp (pe_callGK F hr hgd hg hm hk hb ha hkw hall hks hdb he hpl) fun σ H Q z => by
    have h1 := tOs_app (callk_out hf hp z)
    refine tOs_mono (tOs_len h1) fun vs H1 h2 => ⟨h2.1.trans hl1, tOs_mono (tOs_len h2.2) fun zs H2 h3 => ⟨h3.1.trans hl2, h3.2⟩⟩
theorem s_callk0 (hf : Fair C) (F : FnG X.prog X.w X.K X.mg X.base k f fd ps (spF X.K (C j))) (hr : Room k X.A) (hgd : X.A.guards = some []) (hg : Gl X x) (hm : X.mg x = some (.ref f)) (hk : PySem.W.keepIn X.K (.ref f) = true)
    (hb : KwB fd ps ks 0 pm) (hkw : PK X kws (tOs X.K C κs)) (hl2 : κs.length = ks.length) (hp : pm.Perm (List.range κs.length))
    (hall : (backToKw pos (keywordEach kws X.env)).all (·.1.isSome) = true) (hks : (backToKw pos (keywordEach kws X.env)).filterMap (·.1) = ks)
    (hdb : (x == ("__debug__" : Str)) = false) (hpl : ((backTo pos (starEach [] X.env)).any (·.1) || (backToKw pos (keywordEach kws X.env)).any (·.1.isNone)) = false) :
    SE X C (.Call (.Name x p) [] kws pos) (.callk j κs pm) :=
  PE.imp (pe_callGK0 F hr hgd hg hm hk hb hkw hall hks hdb hpl) fun σ H Q z =>
    tOs_mono (tOs_len (callk_out hf hp z)) fun zs H2 h3 => ⟨h3.1.trans hl2, h3.2⟩
end

/-! ### targets -/
mutual
def tgSlots : Tg → List Nat
  | .nm i => [i]
  | .tp ts => tgsSlots ts
def tgsSlots : List Tg → List Nat
  | [] => []
  | t :: ts => tgSlots t ++ tgsSlots ts
end
/-- σ' is σ but for those slots -/
def Agree (is : List Nat) (σ σ' : L2.St) : Prop := σ'.length = σ.length ∧ ∀ i, i ∉ is → σ'[i]? = σ[i]?
theorem Agree.refl (is : List Nat) (σ : L2.St) : Agree is σ σ := ⟨rfl, fun _ _ => rfl⟩
theorem Agree.trans {is js : List Nat} {σ σ' σ2 : L2.St} (a : Agree is σ σ') (b : Agree js σ' σ2) : Agree (is ++ js) σ σ2 :=
  ⟨b.1.trans a.1, fun i h => by rw [b.2 i fun z => h (List.mem_append_right _ z), a.2 i fun z => h (List.mem_append_left _ z)]⟩
theorem Agree.mono {is js : List Nat} {σ σ' : L2.St} (a : Agree is σ σ') (h : ∀ i ∈ is, i ∈ js) : Agree js σ σ' := ⟨a.1, fun i hi => a.2 i fun z => hi (h i z)⟩
theorem Agree.set {i : Nat} {σ : L2.St} {x : Option V} : Agree [i] σ (σ.set i x) := ⟨List.length_set .., fun j h => List.getElem?_set_ne fun e => h (by simp [e])⟩
theorem wipe_get : ∀ {vs : List Nat} {σ : L2.St} {i : Nat}, i < σ.length → i ∈ vs → (wipe σ vs)[i]? = some none
  | [], _, _, _, h => by cases h
  | v :: vs, σ, i, hl, h => by
    show ((wipe σ vs).set v none)[i]? = some none
    by_cases e : v = i
    · subst e
      rw [List.getElem?_set_self (by rw [wipe_length]; exact hl)]
    · rw [List.getElem?_set_ne e]
      exact wipe_get hl ((List.mem_cons.mp h).resolve_left fun z => e z.symm)
theorem Agree.wipe {vs : List Nat} {σ σ' : L2.St} (a : Agree vs σ σ') : wipe σ' vs = wipe σ vs := by
  apply List.ext_getElem?
  intro i
  by_cases hi : i ∈ vs
  · by_cases hl : i < σ.length
    · rw [wipe_get hl hi, wipe_get (by rw [a.1]; exact hl) hi]
    · rw [List.getElem?_eq_none (by rw [wipe_length, a.1]; omega), List.getElem?_eq_none (by rw [wipe_length]; omega)]
  · rw [wipe_out hi, wipe_out hi, a.2 i hi]
def gS (K : Frag) (t : Tg) : TG := fun v σ H Q => ∃ ρ o ρ' M, bindTg t o ρ = some ρ' ∧ Ws K H ((some o, v) :: M) ρ σ ∧ ∀ σ', Agree (tgSlots t) σ σ' → Ws K H M ρ' σ' → Q σ' H
def gSs (K : Frag) (ts : List Tg) : TGs := fun vs σ H Q => ∃ ρ os ρ' M, bindTgs ts os ρ = some ρ' ∧ os.length = vs.length ∧ Ws K H (ens os vs ++ M) ρ σ ∧ ∀ σ', Agree (tgsSlots ts) σ σ' → Ws K H M ρ' σ' → Q σ' H
theorem PG.imp {tg : Expr} {t t' : TG} (h : PG X tg t) (w : ∀ v σ H Q, t' v σ H Q → t v σ H Q) : PG X tg t' := ⟨fun pins s σ H v u Q I r q => h.run pins s σ H v u Q I r (w v σ H Q q)⟩
theorem PGs.imp {tg : List Expr} {t t' : TGs} (h : PGs X tg t) (w : ∀ v σ H Q, t' v σ H Q → t v σ H Q) : PGs X tg t' := ⟨fun pins s σ H v u Q I r q => h.run pins s σ H v u Q I r (w v σ H Q q)⟩
theorem g_name {i : Nat} {x : Str} (hN : X.N.Nodup) (hi : X.N[i]? = some x) (hx : Loc X.env.scope x) (hf : X.fn x = true ∨ X.env.scope.names.lookup x = some .local) : PG X (.Name x pos) (gS X.K (.nm i)) :=
  PG.imp (pg_name hN hi hx hf) fun v σ H Q h => by
    obtain ⟨ρ, o, ρ', M, e1, w, z⟩ := h
    simp only [bindTg] at e1
    split at e1
    · rename_i hl
      cases e1
      exact z _ (by simp only [tgSlots]; exact Agree.set) (w.store hl)
    · cases e1
theorem g_nil : PGs X [] (gSs X.K []) := PGs.imp pgs_nil fun vs σ H Q h => by
  obtain ⟨ρ, os, ρ', M, e1, l, w, z⟩ := h
  cases os with
  | nil =>
    simp only [bindTgs] at e1
    cases e1
    have : vs = [] := List.eq_nil_of_length_eq_zero l.symm
    subst this
    exact ⟨rfl, z σ (Agree.refl _ _) w⟩
  | cons _ _ =>
    simp only [bindTgs] at e1
    cases e1
theorem g_cons {t : Tg} {ts : List Tg} (h1 : PG X e (gS X.K t)) (h2 : PGs X es (gSs X.K ts)) (hs : (assignEach (e :: es) X.env).map (·.2) = assign e X.env :: (assignEach es X.env).map (·.2)) : PGs X (e :: es) (gSs X.K (t :: ts)) :=
  PGs.imp (pgs_cons h1 h2 hs) fun vs σ H Q h => by
    obtain ⟨ρ, os, ρ', M, e1, l, w, z⟩ := h
    cases os with
    | nil =>
      simp only [bindTgs] at e1
      cases e1
    | cons o os =>
      simp only [bindTgs] at e1
      split at e1
      · rename_i ρ1 h3
        cases vs with
        | nil => cases l
        | cons v r =>
          have w : Ws X.K H ((some o, v) :: (ens os r ++ M)) ρ σ := w
          refine ⟨v, r, rfl, ρ, o, ρ1, ens os r ++ M, h3, w, fun σ1 a1 w1 => ⟨ρ1, os, ρ', M, e1, by simpa using l, w1, fun σ2 a2 w2 => z σ2 ?_ w2⟩⟩
          simp only [tgsSlots]
          exact a1.trans a2
      · cases e1
theorem bindTgs_len : ∀ {ts : List Tg} {os : List O} {ρ ρ' : Env}, bindTgs ts os ρ = some ρ' → ts.length = os.length
  | [], [], _, _, _ => rfl
  | t :: ts, o :: os, ρ, ρ', h => by
    simp only [bindTgs] at h
    split at h
    · rw [List.length_cons, List.length_cons, bindTgs_len h]
    · cases h
  | [], _ :: _, _, _, h => by simp only [bindTgs] at h; cases h
  | _ :: _, [], _, _, h => by simp only [bindTgs] at h; cases h
theorem g_tup {ts : List Tg} {k : Nat} (hc : X.calm = true) (h : PGs X es (gSs X.K ts)) (hn : (assignEach es X.env).length = ts.length) (hst : (assignEach es X.env).findIdx? (·.1) = none) : PG X (.Tuple es k pos) (gS X.K (.tp ts)) :=
  PG.imp (pg_tup hc h hn hst) fun v σ H Q h => by
    obtain ⟨ρ, o, ρ', M, e1, w, z⟩ := h
    simp only [bindTg] at e1
    split at e1
    · rename_i ds
      obtain ⟨c, G, A, s, ⟨B, D, q1, q2, rfl⟩, n, f⟩ := w
      simp only [OwE, Ow, Sh] at q1
      obtain ⟨rfl, a, vs, rfl, ha, hs⟩ := q1
      refine ⟨a, vs, rfl, s.sqT ha, ?_, ρ, ds.map O.sh, ρ', M, e1, by rw [List.length_map]; exact hs.len, ⟨c, G, D, s, ?_, n, f⟩, fun σ' ag w' => z σ' (by simpa only [tgSlots] using ag) w'⟩
      · rw [← hs.len, bindTgs_len e1, List.length_map]
      · rw [List.append_assoc]
        exact PL.join _ _ [] D (OwL.pl (OwL.of_sh hs)).1 q2
    · rename_i os
      obtain ⟨c, w⟩ := w
      obtain ⟨a, vs, rfl, ha, l, w2⟩ := Wd.openT (L := M ++ live ρ σ) w
      refine ⟨a, vs, rfl, .of ha, ?_, ρ, os, ρ', M, e1, l, ⟨c, by rw [List.append_assoc]; exact w2.drop⟩, fun σ' ag w' => z σ' (by simpa only [tgSlots] using ag) w'⟩
      rw [← l, bindTgs_len e1]
    · cases e1

/-! ### walks -/
structure ItOk (K : Frag) (J : It) (E : List En) (xs : List O) : Prop where
  step : ∀ (i : Nat) (x : O), xs[i]? = some x → ∀ (H : Hp) (L : List En), Wd K H (E ++ L) → J.go i H ∧ ∀ v H', J.yld i H v H' → Wd K H' ((some x, v) :: (E ++ L))
  stop : ∀ (i : Nat), xs.length ≤ i → ∀ (H : Hp) (L : List En), Wd K H (E ++ L) → J.stop i H
def tI (K : Frag) (C : Cal) (ik : IK) (τs : List T) : TI := fun σ H R => ∃ ρ os ρ' M xs, evs C τs ρ = some (os, ρ') ∧ walk ik (os.map fun o => .sh o.d) = some xs ∧ Ws K H M ρ σ ∧
  ∀ J E H1, ItOk K J E xs → Ws K H1 (E ++ M) ρ' σ → R J H1
theorem PI.imp {tg : Expr} {t t' : TI} (h : PI X tg e t) (w : ∀ σ H R, t' σ H R → t σ H R) : PI X tg e t' := ⟨fun pins s σ H R I q => h.run pins s σ H R I (w σ H R q)⟩
theorem PI.or {tg : Expr} {t t' : TI} (h : PI X tg e t) (h' : PI X tg e t') : PI X tg e fun σ H R => t σ H R ∨ t' σ H R := ⟨fun pins s σ H R I q => q.elim (h.run pins s σ H R I) (h'.run pins s σ H R I)⟩
theorem sub_wd {d : PyData} {v : V} {L : List En} (h : Wd K H ((some (.sh d), v) :: L)) : ∃ G, Sub G H ∧ Sh K G d v ∧ ∀ d' v', Sh K G d' v' → Wd K H ((some (.sh d'), v') :: (some (.sh d), v) :: L) := by
  obtain ⟨G, A, s, ⟨B, D, q1, q2, rfl⟩, n, f⟩ := h
  simp only [OwE, Ow] at q1
  obtain ⟨rfl, q1⟩ := q1
  refine ⟨G, s, q1, fun d' v' q => ⟨G, D, s, ⟨[], D, ?_, ⟨[], D, ?_, q2, rfl⟩, rfl⟩, n, f⟩⟩
  · simp only [OwE, Ow]
    exact ⟨trivial, q⟩
  · simp only [OwE, Ow]
    exact ⟨trivial, q1⟩
theorem itok_list {ds : List PyData} {a : Addr} : ItOk K (Itl K a) [(some (.sh (.list ds)), .ref a)] (ds.map O.sh) where
  step := fun i x hx H L w => by
    obtain ⟨G, s, q, cl⟩ := sub_wd (L := L) w
    simp only [Sh] at q
    obtain ⟨b, vs, e, ha, hs⟩ := q
    cases e
    rw [List.getElem?_map, Option.map_eq_some_iff] at hx
    obtain ⟨d, hd, rfl⟩ := hx
    obtain ⟨u, hu, su⟩ := hs.get hd
    refine ⟨⟨vs, u, .of (s _ _ ha), hu⟩, fun v H' y => ?_⟩
    obtain ⟨rfl, y⟩ := y
    have := y vs (.of (s _ _ ha))
    rw [hu] at this
    cases this
    exact cl d u su
  stop := fun i hi H L w => by
    obtain ⟨G, s, q, cl⟩ := sub_wd (L := L) w
    simp only [Sh] at q
    obtain ⟨b, vs, e, ha, hs⟩ := q
    cases e
    refine ⟨vs, .of (s _ _ ha), ?_⟩
    rw [← hs.len]
    simpa using hi
theorem itok_tup {ds : List PyData} {a : Addr} : ItOk K (Itt K a) [(some (.sh (.tuple ds)), .ref a)] (ds.map O.sh) where
  step := fun i x hx H L w => by
    obtain ⟨G, s, q, cl⟩ := sub_wd (L := L) w
    simp only [Sh] at q
    obtain ⟨b, vs, e, ha, hs⟩ := q
    cases e
    rw [List.getElem?_map, Option.map_eq_some_iff] at hx
    obtain ⟨d, hd, rfl⟩ := hx
    obtain ⟨u, hu, su⟩ := hs.get hd
    refine ⟨⟨vs, u, s.sqT ha, hu⟩, fun v H' y => ?_⟩
    obtain ⟨rfl, y⟩ := y
    have := y vs (s.sqT ha)
    rw [hu] at this
    cases this
    exact cl d u su
  stop := fun i hi H L w => by
    obtain ⟨G, s, q, cl⟩ := sub_wd (L := L) w
    simp only [Sh] at q
    obtain ⟨b, vs, e, ha, hs⟩ := q
    cases e
    refine ⟨vs, s.sqT ha, ?_⟩
    rw [← hs.len]
    simpa using hi
theorem itok_str {z : Str} : ItOk K (Its z) [] (strItems z) where
  step := fun i x hx H L w => by
    unfold strItems at hx
    rw [List.getElem?_map, Option.map_eq_some_iff] at hx
    obtain ⟨c, hc, rfl⟩ := hx
    have hl : i < z.cps.size := by
      rcases Nat.lt_or_ge i z.cps.size with h | h
      · exact h
      · rw [List.getElem?_eq_none (by simpa using h)] at hc
        cases hc
    refine ⟨hl, fun v H' y => ?_⟩
    obtain ⟨rfl, c', hc', rfl⟩ := y
    have : c' = c := by
      rw [Array.getElem?_toList, hc'] at hc
      exact Option.some.inj hc
    subst this
    exact Wd.flat (L := L) w fun _ => by simp only [Sh]
  stop := fun i hi H L w => by
    have : z.cps.size ≤ i := by simpa [strItems] using hi
    exact this
theorem itok_rng {lo : Int} {n : Nat} : ItOk K (Itr lo n) [] ((List.range n).map fun (m : Nat) => shI (lo + (m : Int))) where
  step := fun i x hx H L w => by
    rw [List.getElem?_map, Option.map_eq_some_iff] at hx
    obtain ⟨m, hm, rfl⟩ := hx
    have hl : i < n := by
      rcases Nat.lt_or_ge i n with h | h
      · exact h
      · rw [List.getElem?_eq_none (by simpa using h)] at hm
        cases hm
    rw [List.getElem?_range hl] at hm
    cases hm
    refine ⟨hl, fun v H' y => ?_⟩
    obtain ⟨rfl, rfl⟩ := y
    exact Wd.flat (L := L) w fun _ => by simp only [Sh]
  stop := fun i hi H L w => by
    have : n ≤ i := by simpa using hi
    exact this
/-- a new pair of what nobody changes -/
theorem pair_wd {d1 d2 : PyData} {v1 v2 : V} {p : Addr} {L : List En} (h : Wd K H ((some (.sh d1), v1) :: (some (.sh d2), v2) :: L)) (hp : H p = none) : Wd K (upd H p (.tup [v1, v2])) ((some (.sh (.tuple [d1, d2])), .ref p) :: L) := by
  have h2 : Wd K H (ens [.sh d1, .sh d2] [v1, v2] ++ L) := h
  have q := (Wd.tuple h2 rfl hp).fz
  simpa only [O.d, O.dL] using q
theorem itok_en {ds : List PyData} {a : Addr} : ItOk K (Ite K a) [(some (.sh (.list ds)), .ref a)] (ds.zipIdx.map fun q : PyData × Nat => .sh (.tuple [.int q.2, q.1])) where
  step := fun i x hx H L w => by
    obtain ⟨G, s, q, cl⟩ := sub_wd (L := L) w
    simp only [Sh] at q
    obtain ⟨b, vs, e, ha, hs⟩ := q
    cases e
    rw [List.getElem?_map, Option.map_eq_some_iff] at hx
    obtain ⟨⟨d, j⟩, hd, rfl⟩ := hx
    rw [List.getElem?_zipIdx, Option.map_eq_some_iff] at hd
    obtain ⟨d', hd, e2⟩ := hd
    cases e2
    obtain ⟨u, hu, su⟩ := hs.get hd
    refine ⟨⟨vs, u, .of (s _ _ ha), hu⟩, fun v H' y => ?_⟩
    obtain ⟨T, x, rfl, hT, rfl, y⟩ := y
    have := y vs (.of (s _ _ ha))
    rw [hu] at this
    cases this
    have w2 := (cl d u su).flat (d := .int i) (v := .int i) fun _ => by simp only [Sh]
    have w3 := pair_wd w2 hT
    rw [Nat.zero_add]
    exact w3
  stop := fun i hi H L w => by
    obtain ⟨G, s, q, cl⟩ := sub_wd (L := L) w
    simp only [Sh] at q
    obtain ⟨b, vs, e, ha, hs⟩ := q
    cases e
    refine ⟨vs, .of (s _ _ ha), ?_⟩
    rw [← hs.len]
    simpa using hi
theorem itok_zp {ds es : List PyData} {a b : Addr} : ItOk K (Itz K a b) [(some (.sh (.list ds)), .ref a), (some (.sh (.list es)), .ref b)] ((ds.zip es).map fun q : PyData × PyData => .sh (.tuple [q.1, q.2])) where
  step := fun i x hx H L w => by
    obtain ⟨G, A, s, ⟨B, D, q1, ⟨B2, D2, q2, q3, rfl⟩, rfl⟩, n, f⟩ := w
    simp only [OwE, Ow, Sh] at q1 q2
    obtain ⟨rfl, a1, vs, e1, ha, hs⟩ := q1
    obtain ⟨rfl, b1, ws, e2, hb, ht⟩ := q2
    cases e1
    cases e2
    rw [List.getElem?_map, Option.map_eq_some_iff] at hx
    obtain ⟨⟨d1, d2⟩, hd, rfl⟩ := hx
    rw [List.getElem?_zip_eq_some] at hd
    obtain ⟨u1, hu1, su1⟩ := hs.get hd.1
    obtain ⟨u2, hu2, su2⟩ := ht.get hd.2
    refine ⟨⟨vs, ws, u1, u2, .of (s _ _ ha), .of (s _ _ hb), hu1, hu2⟩, fun v H' y => ?_⟩
    obtain ⟨T, x, y', rfl, hT, rfl, y1, y2⟩ := y
    have g1 := y1 vs (.of (s _ _ ha))
    have g2 := y2 ws (.of (s _ _ hb))
    rw [hu1] at g1
    rw [hu2] at g2
    cases g1
    cases g2
    refine pair_wd (L := (some (.sh (.list ds)), .ref a) :: (some (.sh (.list es)), .ref b) :: L) ⟨G, D2, s, ⟨[], D2, ?_, ⟨[], D2, ?_, ⟨[], D2, ?_, ⟨[], D2, ?_, q3, rfl⟩, rfl⟩, rfl⟩, rfl⟩, n, f⟩ hT
    · simp only [OwE, Ow]; exact ⟨trivial, su1⟩
    · simp only [OwE, Ow]; exact ⟨trivial, su2⟩
    · simp only [OwE, Ow, Sh]; exact ⟨trivial, _, _, rfl, ha, hs⟩
    · simp only [OwE, Ow, Sh]; exact ⟨trivial, _, _, rfl, hb, ht⟩
  stop := fun i hi H L w => by
    obtain ⟨G, A, s, ⟨B, D, q1, ⟨B2, D2, q2, q3, rfl⟩, rfl⟩, n, f⟩ := w
    simp only [OwE, Ow, Sh] at q1 q2
    obtain ⟨rfl, a1, vs, e1, ha, hs⟩ := q1
    obtain ⟨rfl, b1, ws, e2, hb, ht⟩ := q2
    cases e1
    cases e2
    refine ⟨vs, ws, .of (s _ _ ha), .of (s _ _ hb), ?_⟩
    rw [← hs.len, ← ht.len]
    rw [List.length_map, List.length_zip] at hi
    omega
end
end Qv
end
section
set_option Elab.async false
set_option linter.all false
set_option maxRecDepth 100000
set_option maxHeartbeats 1000000
/-! Q10: what loops walk; comprehensions; statements. -/
namespace Qv
open PySem PySem.Spec PyProof.Rows L2

section
variable {X : Cx} {C : Cal} {e a b c tg : Expr} {es : List Expr} {τ τa τb τc : T} {τs κs : List T} {pos p pos' : Pos}
variable {K : Frag} {H : Hp} {ρ : Env} {σ : L2.St} {M N : List En}

/-! ### what is walked -/
theorem shd_eq {o : O} {d : PyData} (h : O.sh o.d = .sh d) : o.d = d := by injection h
theorem Ws.data {o : O} {v : V} {d : PyData} (w : Ws K H ((some o, v) :: M) ρ σ) (h : o.d = d) : Ws K H ((some (.sh d), v) :: M) ρ σ := h ▸ w.fz
theorem evs_one {ρ ρ' : Env} {os : List O} (h : evs C [τ] ρ = some (os, ρ')) : ∃ o, os = [o] ∧ ev C τ ρ = some (o, ρ') := by
  simp only [evs] at h
  split at h
  · rename_i o ρ1 h1
    cases h
    exact ⟨o, rfl, h1⟩
  · cases h
theorem i_sq (h : SE X C e τ) : PI X tg e (tI X.K C .sq [τ]) := PI.imp (PI.or (pi_list h) (PI.or (pi_tup h) (pi_str h))) fun σ H R z => by
  obtain ⟨ρ, os, ρ', M, xs, e1, e2, w, z⟩ := z
  obtain ⟨o, rfl, e0⟩ := evs_one e1
  simp only [List.map_cons, List.map_nil, walk] at e2
  have cs : (∃ ds, o.d = .list ds ∧ xs = ds.map O.sh) ∨ (∃ ds, o.d = .tuple ds ∧ xs = ds.map O.sh) ∨ ∃ x, o.d = .str x ∧ xs = strItems x := by
    cases q : o.d with
    | list ds => rw [q] at e2; simp only [O.seq?, O.list?] at e2; cases e2; exact .inl ⟨ds, rfl, rfl⟩
    | tuple ds => rw [q] at e2; simp only [O.seq?, O.list?, O.tup?] at e2; cases e2; exact .inr (.inl ⟨ds, rfl, rfl⟩)
    | str x => rw [q] at e2; simp only [O.seq?, O.list?, O.tup?] at e2; cases e2; exact .inr (.inr ⟨x, rfl, rfl⟩)
    | _ => rw [q] at e2; simp only [O.seq?, O.list?, O.tup?] at e2; cases e2
  rcases cs with ⟨ds, q, rfl⟩ | ⟨ds, q, rfl⟩ | ⟨x, q, rfl⟩
  · refine .inl ⟨ρ, o, ρ', M, e0, w, fun v H1 w1 => ?_⟩
    have w2 := w1.data q
    obtain ⟨G, s, hv⟩ := w2.scal
    simp only [Sh] at hv
    obtain ⟨a, vs, rfl, ha, _⟩ := hv
    exact ⟨a, rfl, ⟨vs, .of (s _ _ ha)⟩, z _ [(some (.sh (.list ds)), .ref a)] H1 itok_list w2⟩
  · refine .inr (.inl ⟨ρ, o, ρ', M, e0, w, fun v H1 w1 => ?_⟩)
    have w2 := w1.data q
    obtain ⟨G, s, hv⟩ := w2.scal
    simp only [Sh] at hv
    obtain ⟨a, vs, rfl, ha, _⟩ := hv
    exact ⟨a, rfl, ⟨vs, s.sqT ha⟩, z _ [(some (.sh (.tuple ds)), .ref a)] H1 itok_tup w2⟩
  · refine .inr (.inr ⟨ρ, o, ρ', M, e0, w, fun v H1 w1 => ?_⟩)
    have w2 := w1.data q
    obtain ⟨G, s, hv⟩ := w2.scal
    simp only [Sh] at hv
    subst hv
    exact ⟨x, rfl, z _ [] H1 itok_str w2.drop⟩
theorem Ws.int {i : Int} {v : V} {o : O} (w : Ws K H ((some o, v) :: M) ρ σ) (h : o.d = .int i) : v = .int i := by
  obtain ⟨G, s, hv⟩ := (w.data h).scal
  simpa only [Sh] using hv
theorem rng1_in {o : O} {xs : List O} (h : walk .rng [.sh o.d] = some xs) : ∃ j : Int, o.d = .int j ∧ (-(2 ^ 62) ≤ j ∧ j < 2 ^ 62) ∧ xs = (List.range j.toNat).map fun (n : Nat) => shI (0 + (n : Int)) := by
  cases q : o.d with
  | int j =>
    rw [q] at h
    simp only [walk] at h
    obtain ⟨c, rfl⟩ := gd_some h
    have c : -(2 ^ 62) ≤ j ∧ j < 2 ^ 62 := of_decide_eq_true c
    exact ⟨j, rfl, c, rfl⟩
  | _ => rw [q] at h; simp only [walk] at h; cases h
theorem i_rng1 (hg : Gl X "range") (hm : X.mg "range" = none) (ha : SEs X C [a] [τ]) (hs : starEach [a] X.env = [(false, eval a X.env)]) : PI X tg (.Call (.Name "range" p) [a] [] pos) (tI X.K C .rng [τ]) :=
  PI.imp (pi_range1 hg hm ha hs) fun σ H R z => by
    obtain ⟨ρ, os, ρ', M, xs, e1, e2, w, z⟩ := z
    refine evs_run e1 w fun vs H1 l w1 => ?_
    obtain ⟨o, rfl, e1⟩ := evs_one e1
    obtain ⟨j, q, c, rfl⟩ := rng1_in e2
    obtain ⟨v, rfl⟩ : ∃ v, vs = [v] := match vs, l with
      | [v], _ => ⟨v, rfl⟩
    have w1 : Ws X.K H1 ((some o, v) :: M) ρ' σ := w1
    cases w1.int q
    exact ⟨j, rfl, c.1, c.2, z _ [] H1 itok_rng w1.drop⟩
theorem evs_two {ρ ρ' : Env} {os : List O} {τ2 : T} (h : evs C [τ, τ2] ρ = some (os, ρ')) : ∃ o o2, os = [o, o2] := by
  simp only [evs] at h
  split at h
  · split at h
    · rename_i os' ρ2 h2
      cases h
      split at h2
      · cases h2
        exact ⟨_, _, rfl⟩
      · cases h2
    · cases h
  · cases h
theorem i_rng2 {τ2 : T} (hg : Gl X "range") (hm : X.mg "range" = none) (ha : SEs X C [a, b] [τ, τ2]) (hs : starEach [a, b] X.env = [(false, eval a X.env), (false, eval b X.env)]) (hs2 : starEach [b] X.env = [(false, eval b X.env)]) : PI X tg (.Call (.Name "range" p) [a, b] [] pos) (tI X.K C .rng [τ, τ2]) :=
  PI.imp (pi_range2 hg hm ha hs hs2) fun σ H R z => by
    obtain ⟨ρ, os, ρ', M, xs, e1, e2, w, z⟩ := z
    refine evs_run e1 w fun vs H1 l w1 => ?_
    obtain ⟨o, o2, rfl⟩ := evs_two e1
    obtain ⟨v, v2, rfl⟩ : ∃ v v2, vs = [v, v2] := match vs, l with
      | [v, v2], _ => ⟨v, v2, rfl⟩
    have w1 : Ws X.K H1 ((some o, v) :: (some o2, v2) :: M) ρ' σ := w1
    simp only [List.map_cons, List.map_nil] at e2
    obtain ⟨i, j, q1, q2, c, rfl⟩ : ∃ i j : Int, o.d = .int i ∧ o2.d = .int j ∧ (-(2 ^ 62) ≤ i ∧ i < 2 ^ 62 ∧ -(2 ^ 62) ≤ j ∧ j < 2 ^ 62) ∧ xs = (List.range (j - i).toNat).map fun (n : Nat) => shI (i + (n : Int)) := by
      cases q : o.d with
      | int i =>
        rw [q] at e2
        cases q2 : o2.d with
        | int j =>
          rw [q2] at e2
          simp only [walk] at e2
          obtain ⟨c, rfl⟩ := gd_some e2
          have c : -(2 ^ 62) ≤ i ∧ i < 2 ^ 62 ∧ -(2 ^ 62) ≤ j ∧ j < 2 ^ 62 := of_decide_eq_true c
          exact ⟨i, j, rfl, rfl, c, rfl⟩
        | _ => rw [q2] at e2; simp only [walk] at e2; cases e2
      | _ => rw [q] at e2; simp only [walk] at e2; cases e2
    cases w1.int q1
    cases w1.drop.int q2
    exact ⟨i, j, rfl, c, z _ [] H1 itok_rng w1.drop.drop⟩
theorem Ws.lst {ds : List PyData} {v : V} {o : O} (w : Ws K H ((some o, v) :: M) ρ σ) (h : o.d = .list ds) : ∃ a vs, v = .ref a ∧ H a = some (.lst vs) := by
  obtain ⟨G, s, hv⟩ := (w.data h).scal
  simp only [Sh] at hv
  obtain ⟨a, vs, rfl, ha, _⟩ := hv
  exact ⟨a, vs, rfl, s _ _ ha⟩
theorem i_en {elts : List Expr} {kk : Nat} {tpos : Pos} (hg : Gl X "enumerate") (hm : X.mg "enumerate" = none) (ha : SEs X C [a] [τ]) (hs : starEach [a] X.env = [(false, eval a X.env)]) : PI X (.Tuple elts kk tpos) (.Call (.Name "enumerate" p) [a] [] pos) (tI X.K C .en [τ]) :=
  PI.imp (pi_enum hg hm ha hs) fun σ H R z => by
    obtain ⟨ρ, os, ρ', M, xs, e1, e2, w, z⟩ := z
    refine evs_run e1 w fun vs H1 l w1 => ?_
    obtain ⟨o, rfl, e1⟩ := evs_one e1
    obtain ⟨v, rfl⟩ : ∃ v, vs = [v] := match vs, l with
      | [v], _ => ⟨v, rfl⟩
    have w1 : Ws X.K H1 ((some o, v) :: M) ρ' σ := w1
    simp only [List.map_cons, List.map_nil] at e2
    obtain ⟨ds, q, rfl⟩ : ∃ ds, o.d = .list ds ∧ xs = ds.zipIdx.map fun q : PyData × Nat => .sh (.tuple [.int q.2, q.1]) := by
      cases q : o.d with
      | list ds => rw [q] at e2; simp only [walk, O.list?] at e2; cases e2; exact ⟨ds, rfl, rfl⟩
      | _ => rw [q] at e2; simp only [walk, O.list?] at e2; cases e2
    obtain ⟨a, us, rfl, ha⟩ := w1.lst q
    exact ⟨a, us, rfl, .of ha, z _ [(some (.sh (.list ds)), .ref a)] H1 itok_en (w1.data q)⟩
theorem i_zp {elts : List Expr} {kk : Nat} {tpos : Pos} {τ2 : T} (hg : Gl X "zip") (hm : X.mg "zip" = none) (ha : SEs X C [a, b] [τ, τ2]) (hs : starEach [a, b] X.env = [(false, eval a X.env), (false, eval b X.env)]) (hs2 : starEach [b] X.env = [(false, eval b X.env)]) : PI X (.Tuple elts kk tpos) (.Call (.Name "zip" p) [a, b] [] pos) (tI X.K C .zp [τ, τ2]) :=
  PI.imp (pi_zip hg hm ha (by rw [hs, hs2]) (by rw [hs2]; rfl)) fun σ H R z => by
    obtain ⟨ρ, os, ρ', M, xs, e1, e2, w, z⟩ := z
    refine evs_run e1 w fun vs H1 l w1 => ?_
    obtain ⟨o, o2, rfl⟩ := evs_two e1
    obtain ⟨v, v2, rfl⟩ : ∃ v v2, vs = [v, v2] := match vs, l with
      | [v, v2], _ => ⟨v, v2, rfl⟩
    have w1 : Ws X.K H1 ((some o, v) :: (some o2, v2) :: M) ρ' σ := w1
    simp only [List.map_cons, List.map_nil] at e2
    obtain ⟨ds, es, q1, q2, rfl⟩ : ∃ ds es, o.d = .list ds ∧ o2.d = .list es ∧ xs = (ds.zip es).map fun q : PyData × PyData => .sh (.tuple [q.1, q.2]) := by
      cases q : o.d with
      | list ds =>
        rw [q] at e2
        cases q2 : o2.d with
        | list es => rw [q2] at e2; simp only [walk, O.list?] at e2; cases e2; exact ⟨ds, es, rfl, rfl, rfl⟩
        | _ => rw [q2] at e2; simp only [walk, O.list?] at e2; cases e2
      | _ => rw [q] at e2; simp only [walk, O.list?] at e2; cases e2
    obtain ⟨a, us, rfl, ha⟩ := w1.lst q1
    obtain ⟨b, ws, rfl, hb⟩ := w1.drop.lst q2
    refine ⟨a, b, us, ws, rfl, .of ha, .of hb, z _ [(some (.sh (.list ds)), .ref a), (some (.sh (.list es)), .ref b)] H1 itok_zp ?_⟩
    have w2 := w1.data q1
    have w3 : Ws X.K H1 ((some o2, .ref b) :: (some (.sh (.list ds)), .ref a) :: M) ρ' σ := w2.mono (.swap ..)
    exact (w3.data q2).mono (.swap ..)

/-! ### comprehensions -/
def tBs (K : Frag) (C : Cal) (cs : List T) : TT := fun σ H Q => ∃ ρ b ρ' M, evBs C cs ρ = some (b, ρ') ∧ Ws K H M ρ σ ∧ ∀ H', Ws K H' M ρ' σ → Q b H'
theorem PTs.imp {ifs : List Expr} {t t' : TT} (h : PTs X ifs t) (w : ∀ σ H Q, t' σ H Q → t σ H Q) : PTs X ifs t' := ⟨fun pins s σ H Q I q => h.run pins s σ H Q I (w σ H Q q)⟩
theorem ts_nil : PTs X [] (tBs X.K C []) := PTs.imp pts_nil fun σ H Q z => by
  obtain ⟨ρ, b, ρ', M, e1, w, z⟩ := z
  simp only [evBs] at e1
  cases e1
  exact z H w
theorem ts_one (h : ST X C c τ) : PTs X [c] (tBs X.K C [τ]) := PTs.imp (pts_one h) fun σ H Q z => by
  obtain ⟨ρ, b, ρ', M, e1, w, z⟩ := z
  simp only [evBs] at e1
  split at e1
  · rename_i h1
    cases e1
    exact ⟨ρ, true, ρ', M, h1, w, z⟩
  · rename_i h1
    cases e1
    exact ⟨ρ, false, ρ', M, h1, w, z⟩
  · cases e1
theorem set_none_comm (ρ : Env) (i j : Nat) : (ρ.set i none).set j none = (ρ.set j none).set i none := by
  by_cases e : i = j
  · rw [e]
  · rw [List.set_comm _ _ e]
theorem forget_set : ∀ (vs : List Nat) (ρ : Env) (v : Nat), (forget ρ vs).set v none = forget (ρ.set v none) vs
  | [], _, _ => rfl
  | u :: vs, ρ, v => by
    show ((forget ρ vs).set u none).set v none = (forget (ρ.set v none) vs).set u none
    rw [set_none_comm, forget_set vs ρ v]
theorem Ws.unset {v : Nat} (h : Ws K H M ρ (σ.set v none)) : Ws K H M (ρ.set v none) σ := by
  have q := h.forget1 v
  by_cases hv : v < σ.length
  · have hl : v < ρ.length := by rw [h.1.len, List.length_set]; exact hv
    have e : (ρ.set v none)[v]? = some none := List.getElem?_set_self hl
    obtain ⟨a, b⟩ := q.1.other (x := σ[v]) e
    have e2 : (σ.set v none).set v σ[v] = σ := by
      rw [List.set_set]
      exact List.set_getElem_self hv
    rw [e2] at a b
    refine ⟨b, ?_⟩
    rw [a]
    exact q.2
  · have e : σ.set v none = σ := List.set_eq_of_length_le (by omega)
    rw [e] at q
    exact q
theorem Ws.unwipe : ∀ {vs : List Nat} {ρ : Env}, Ws K H M ρ (wipe σ vs) → Ws K H M (forget ρ vs) σ
  | [], _, h => h
  | v :: vs, ρ, h => by
    have h : Ws K H M ρ ((wipe σ vs).set v none) := h
    have q := Ws.unwipe (vs := vs) h.unset
    show Ws K H M ((forget ρ vs).set v none) σ
    rw [forget_set]
    exact q
theorem lc_out {ws : List Nat} {t : Tg} {ik : IK} {ies cs : List T} {Q : VK} (htg : ∀ i ∈ tgSlots t, i ∈ ws) (h : tS K C (.lc ws t ik ies cs τ) σ H Q) : tLc (tI K C ik ies) (gS K t) (tBs K C cs) (tS K C τ) ws σ H Q := by
  obtain ⟨ρ, o, ρ', M, e1, w, z⟩ := h
  simp only [ev] at e1
  split at e1
  · rename_i ios ρ1 h1
    split at e1
    · rename_i xs h2
      split at e1
      · rename_i os ρ2 h3
        cases e1
        refine ⟨ρ, ios, ρ1, M, xs, h1, h2, w, fun J E H1 it w1 D hD => ?_⟩
        generalize hf : (fun x ρ2 => match bindTg t x ρ2 with
          | some ρ3 => match evBs C cs ρ3 with
            | some (true, ρ4) => match ev C τ ρ4 with
              | some (o, ρ5) => some (some (.sh o.d), forget ρ5 ws)
              | none => none
            | some (false, ρ4) => some (none, forget ρ4 ws)
            | none => none
          | none => none : O → Env → Option (Option O × Env)) = f at h3
        refine ⟨fun i m H => m = xs.length - i ∧ i ≤ xs.length ∧ ∃ acc ρa, lcGo f (xs.drop i) acc ρa = some (os, ρ2) ∧ Ws K H ((some (.ol acc), .ref D) :: (E ++ M)) ρa (wipe σ ws),
          ⟨xs.length, by simp, Nat.zero_le _, [], forget ρ1 ws, by simpa using h3, ?_⟩, ?_⟩
        · have w2 := w1.wiped ws
          refine ⟨w2.1, ?_⟩
          have w3 : Wd K H1 (ens [] [] ++ (E ++ M ++ live (forget ρ1 ws) (wipe σ ws))) := w2.2
          exact Wd.list w3 rfl hD
        · rintro i m H2 ⟨rfl, hi, acc, ρa, hg, w2⟩
          have front : ((some (O.ol acc), V.ref D) :: (E ++ M)).Perm (E ++ ((some (O.ol acc), V.ref D) :: M)) := List.perm_middle.symm
          have w3 := w2.mono front
          by_cases hlt : i < xs.length
          · have hx : xs[i]? = some xs[i] := List.getElem?_eq_getElem hlt
            have w3d := w3.2
            rw [List.append_assoc] at w3d
            obtain ⟨go, yl⟩ := it.step i _ hx H2 _ w3d
            refine .inr ⟨go, fun H' => ∃ acc ρa, lcGo f (xs.drop (i + 1)) acc ρa = some (os, ρ2) ∧ Ws K H' ((some (.ol acc), .ref D) :: (E ++ M)) ρa (wipe σ ws),
              fun H' hn => ⟨xs.length - (i + 1), by omega, rfl, hlt, hn⟩, fun v H' y => ?_⟩
            have w4 := yl v H' y
            have w5 : Ws K H' ((some xs[i], v) :: (E ++ ((some (.ol acc), .ref D) :: M))) ρa (wipe σ ws) := ⟨w3.1, by
              have := w4
              rw [← List.append_assoc] at this
              exact this⟩
            rw [List.drop_eq_getElem_cons hlt] at hg
            simp only [lcGo] at hg
            rw [← hf] at hg
            dsimp only at hg
            cases hb : bindTg t xs[i] ρa with
            | none =>
              rw [hb] at hg
              cases hg
            | some ρ3 =>
              rw [hb] at hg
              dsimp only at hg
              refine ⟨ρa, xs[i], ρ3, _, hb, w5, fun σ2 ag w6 => ⟨(ag.mono htg).wipe.trans ?_, ?_⟩⟩
              · have : Agree ws σ (wipe σ ws) := ⟨wipe_length σ ws, fun i hi => wipe_out hi⟩
                exact this.wipe
              have wp : wipe σ2 ws = wipe σ ws := (ag.mono htg).wipe.trans (by
                have : Agree ws σ (wipe σ ws) := ⟨wipe_length σ ws, fun i hi => wipe_out hi⟩
                exact this.wipe)
              cases hc : evBs C cs ρ3 with
              | none =>
                rw [hc] at hg
                cases hg
              | some bb =>
                obtain ⟨b, ρ4⟩ := bb
                rw [hc] at hg
                refine ⟨ρ3, b, ρ4, _, hc, w6, fun H3 w7 => ?_⟩
                cases b with
                | false =>
                  dsimp only at hg
                  refine iteF ⟨acc, forget ρ4 ws, ?_, ?_⟩
                  · rw [hf] at hg
                    exact hg
                  · have w8 := w7.wiped ws
                    rw [wp] at w8
                    exact w8.mono front.symm
                | true =>
                  dsimp only at hg
                  refine iteT ?_
                  cases he : ev C τ ρ4 with
                  | none =>
                    rw [he] at hg
                    cases hg
                  | some oo =>
                    obtain ⟨o, ρ5⟩ := oo
                    rw [he] at hg
                    dsimp only at hg
                    split at hg
                    · rename_i hl
                      rw [hf] at hg
                      refine ⟨ρ4, o, ρ5, _, he, w7, fun y H4 w8 => ?_⟩
                      have w9 := w8.fz.wiped ws
                      rw [wp] at w9
                      have w10 : Ws K H4 ((some (.ol acc), .ref D) :: (some (.sh o.d), y) :: (E ++ M)) (forget ρ5 ws) (wipe σ ws) := w9.mono ((front.symm.cons _).trans (.swap ..))
                      obtain ⟨c, w11⟩ := w10
                      obtain ⟨a, vs, e3, ha, l, w12⟩ := Wd.open (L := (some (.sh o.d), y) :: (E ++ M) ++ live (forget ρ5 ws) (wipe σ ws)) w11
                      cases e3
                      refine ⟨vs, ha, by rw [← l]; exact hl, acc ++ [.sh o.d], forget ρ5 ws, hg, c, ?_⟩
                      have l2 : (acc ++ [O.sh o.d]).length = (vs ++ [y]).length := by
                        rw [List.length_append, List.length_append, l]
                        rfl
                      refine Wd.close (L := E ++ M ++ live (forget ρ5 ws) (wipe σ ws)) ?_ l2
                      rw [ens_append l, List.append_assoc]
                      exact w12
                    · cases hg
          · have e : i = xs.length := by omega
            subst e
            have w3d := w3.2
            rw [List.append_assoc] at w3d
            refine .inl ⟨it.stop _ (Nat.le_refl _) H2 _ w3d, ?_⟩
            rw [List.drop_length] at hg
            simp only [lcGo] at hg
            cases hg
            have w4 := (w2.underL E).unwipe
            exact z _ _ w4
      · cases e1
    · cases e1
  · cases e1
theorem s_lc {elt iter : Expr} {ifs : List Expr} {scope : Scope} {own : List (Str × Nat)} {t : Tg} {ik : IK} {ies cs : List T} (hc : X.calm = true) (hN : X.N.Nodup) (hi : PI X tg iter (tI X.K C ik ies)) (ok : BlkOk X.N X.env.scope scope own)
    (hg : ∀ (s : Shared) (H : Hp) (B : Addr) (cl : List (Str × Addr)) (fp : List Addr), PG (X.blk s H scope (compEnvC scope cl B X.env) fp) tg (gS X.K t)) (ht : ∀ (s : Shared) (H : Hp) (B : Addr) (cl : List (Str × Addr)) (fp : List Addr), PTs (X.blk s H scope (compEnvC scope cl B X.env) fp) ifs (tBs X.K C cs))
    (he : ∀ (s : Shared) (H : Hp) (B : Addr) (cl : List (Str × Addr)) (fp : List Addr), PE (X.blk s H scope (compEnvC scope cl B X.env) fp) elt (tS X.K C τ)) (hs : ∀ x, foldedSetIterable iter X.env x = pure x)
    (htg : ∀ i ∈ tgSlots t, i ∈ own.map (·.2)) : SE X C (.ListComp elt [⟨tg, iter, ifs, 0⟩] scope pos) (.lc (own.map (·.2)) t ik ies cs τ) :=
  PE.imp (pe_lc hc hN hi ok hg ht he hs) fun σ H Q z => lc_out htg z
end
end Qv
end
section
set_option Elab.async false
set_option linter.all false
set_option maxRecDepth 100000
set_option maxHeartbeats 1000000
/-! Q11: statements. -/
namespace Qv
open PySem PySem.Spec PyProof.Rows L2

/-- these slots stay -/
def Kp (kp : List Nat) (σ σ' : L2.St) : Prop := σ'.length = σ.length ∧ ∀ i ∈ kp, σ'[i]? = σ[i]?
theorem Kp.refl (kp : List Nat) (σ : L2.St) : Kp kp σ σ := ⟨rfl, fun _ _ => rfl⟩
theorem Kp.trans {kp : List Nat} {σ σ1 σ2 : L2.St} (a : Kp kp σ σ1) (b : Kp kp σ1 σ2) : Kp kp σ σ2 := ⟨b.1.trans a.1, fun i h => (b.2 i h).trans (a.2 i h)⟩
theorem Agree.kp {is kp : List Nat} {σ σ' : L2.St} (a : Agree is σ σ') (h : ∀ i ∈ is, i ∉ kp) : Kp kp σ σ' := ⟨a.1, fun i hi => a.2 i fun z => h i z hi⟩
def outOk (K : Frag) (kp : List Nat) (M : List En) (σ : L2.St) : Out → Ends → Prop
  | .nx ρ', D => ∀ σ' H', Kp kp σ σ' → Ws K H' M ρ' σ' → D.nx σ' H'
  | .rt o ρ', D => ∀ σ' v H', Kp kp σ σ' → Ws K H' ((some o, v) :: M) ρ' σ' → D.rt v H'
  | .bk ρ', D => ∀ σ' H', Kp kp σ σ' → Ws K H' M ρ' σ' → D.bk σ' H'
  | .ct ρ', D => ∀ σ' H', Kp kp σ σ' → Ws K H' M ρ' σ' → D.ct σ' H'
def tSS (K : Frag) (C : Cal) (kp : List Nat) (ς : S) : TS := fun D σ H => ∃ ρ out M, evS C ς ρ = some out ∧ Ws K H M ρ σ ∧ outOk K kp M σ out D
def tSB (K : Frag) (C : Cal) (kp : List Nat) (ςs : List S) : TS := fun D σ H => ∃ ρ out M, evSs C ςs ρ = some out ∧ Ws K H M ρ σ ∧ outOk K kp M σ out D
abbrev SS (X : Cx) (C : Cal) (kp : List Nat) (st : Stmt) (ς : S) : Prop := PS X st (tSS X.K C kp ς)
abbrev SB (X : Cx) (C : Cal) (kp : List Nat) (st : List Stmt) (ςs : List S) : Prop := PSs X st (tSB X.K C kp ςs)

section
variable {X : Cx} {C : Cal} {kp : List Nat} {e a b c tg : Expr} {es : List Expr} {τ τa τb τc : T} {τs κs : List T} {pos p pos' : Pos} {st : Stmt} {sts : List Stmt} {ς : S} {ςs : List S}
variable {K : Frag} {H : Hp} {ρ : Env} {σ : L2.St} {M N : List En}

theorem outOk_kp {σ1 : L2.St} {out : Out} {D : Ends} (k : Kp kp σ σ1) (h : outOk K kp M σ out D) : outOk K kp M σ1 out D := by
  cases out with
  | nx ρ' => exact fun σ' H' k' w => h σ' H' (k.trans k') w
  | rt o ρ' => exact fun σ' v H' k' w => h σ' v H' (k.trans k') w
  | bk ρ' => exact fun σ' H' k' w => h σ' H' (k.trans k') w
  | ct ρ' => exact fun σ' H' k' w => h σ' H' (k.trans k') w
/-! ### blocks -/
theorem b_nil : SB X C kp [] [] := PSs.imp pss_nil fun D σ H z => by
  obtain ⟨ρ, out, M, e1, w, q⟩ := z
  simp only [evSs] at e1
  cases e1
  exact q σ H (.refl _ _) w
theorem b_cons (h1 : SS X C kp st ς) (h2 : SB X C kp sts ςs) : SB X C kp (st :: sts) (ς :: ςs) := PSs.imp (pss_cons h1 h2) fun D σ H z => by
  obtain ⟨ρ, out, M, e1, w, q⟩ := z
  simp only [evSs] at e1
  show tSS X.K C kp ς { D with nx := tSB X.K C kp ςs D } σ H
  split at e1
  · rename_i ρ1 h3
    exact ⟨ρ, _, M, h3, w, fun σ' H' k w' => ⟨ρ1, out, M, e1, w', outOk_kp k q⟩⟩
  · rename_i h3
    refine ⟨ρ, out, M, e1, w, ?_⟩
    cases out with
    | nx ρ1 => exact absurd e1 (h3 ρ1)
    | rt o ρ' => exact q
    | bk ρ' => exact q
    | ct ρ' => exact q

/-! ### small statements -/
theorem ss_ex (he : SE X C e τ) (hs : swapsWith e none pos.line X.env = pure false) : SS X C kp (.Expr e pos) (.ex τ) := PS.imp (ps_expr he hs) fun D σ H z => by
  obtain ⟨ρ, out, M, e1, w, q⟩ := z
  simp only [evS] at e1
  split at e1
  · rename_i o ρ1 h1
    cases e1
    exact ⟨ρ, o, ρ1, M, h1, w, fun v H' w' => q σ H' (.refl _ _) w'.drop⟩
  · cases e1
theorem ss_ret (he : SE X C e τ) : SS X C kp (.Return (some e) pos) (.ret τ) := PS.imp (ps_ret he) fun D σ H z => by
  obtain ⟨ρ, out, M, e1, w, q⟩ := z
  simp only [evS] at e1
  split at e1
  · rename_i o ρ1 h1
    cases e1
    exact ⟨ρ, o, ρ1, M, h1, w, fun v H' w' => q σ v H' (.refl _ _) w'⟩
  · cases e1
theorem ss_retN : SS X C kp (.Return none pos) (.ret (.c .none)) := PS.imp ps_retN fun D σ H z => by
  obtain ⟨ρ, out, M, e1, w, q⟩ := z
  simp only [evS, ev] at e1
  cases e1
  exact q σ .non H (.refl _ _) (w.flat fun _ => by simp only [Sh])
theorem ss_pass : SS X C kp (.Pass pos) .pass := PS.imp ps_pass fun D σ H z => by
  obtain ⟨ρ, out, M, e1, w, q⟩ := z
  simp only [evS] at e1
  cases e1
  exact q σ H (.refl _ _) w
theorem ss_brk : SS X C kp (.Break pos) .brk := PS.imp ps_break fun D σ H z => by
  obtain ⟨ρ, out, M, e1, w, q⟩ := z
  simp only [evS] at e1
  cases e1
  exact q σ H (.refl _ _) w
theorem ss_cont : SS X C kp (.Continue pos) .cont := PS.imp ps_continue fun D σ H z => by
  obtain ⟨ρ, out, M, e1, w, q⟩ := z
  simp only [evS] at e1
  cases e1
  exact q σ H (.refl _ _) w
/-- what is never come to -/
theorem ss_raise : SS X C kp st .raise := PS.imp ps_never fun D σ H z => by
  obtain ⟨ρ, out, M, e1, w, q⟩ := z
  simp only [evS] at e1
  cases e1
theorem ss_if {x y : List Stmt} {xs ys : List S} (hc : ST X C c τc) (ha : SB X C kp x xs) (hb : SB X C kp y ys) : SS X C kp (.If c x y pos) (.ite τc xs ys) := PS.imp (ps_if hc ha hb) fun D σ H z => by
  obtain ⟨ρ, out, M, e1, w, q⟩ := z
  simp only [evS] at e1
  split at e1
  · rename_i ρ1 h1
    exact ⟨ρ, true, ρ1, M, h1, w, fun H1 w1 => iteT ⟨ρ1, out, M, e1, w1, q⟩⟩
  · rename_i ρ1 h1
    exact ⟨ρ, false, ρ1, M, h1, w, fun H1 w1 => iteF ⟨ρ1, out, M, e1, w1, q⟩⟩
  · cases e1
theorem ss_while {x : List Stmt} {xs : List S} (hxe : X.xe = fun _ _ => False) (hc : ST X C c τc) (ha : SB X C kp x xs) : SS X C kp (.While c x [] pos) (.wh τc xs) := by
  have hp : PassesOwn (model X.prog X.w) X.A X.env X.xe := by
    rw [hxe]
    exact PassesOwn.never
  refine PS.imp (ps_while hp hc ha) fun D σ H z => ?_
  obtain ⟨ρ, out, M, e1, w, q⟩ := z
  simp only [evS] at e1
  obtain ⟨n, hn⟩ := loopO_some e1
  generalize hf : (fun ρ1 => match ev C τc ρ1 with
      | some (.sh (.bool false), ρ2) => some (.inl (.nx ρ2))
      | some (.sh (.bool true), ρ2) => match evSs C xs ρ2 with
        | some (.nx ρ3) => some (.inr ρ3)
        | some (.ct ρ3) => some (.inr ρ3)
        | some (.bk ρ3) => some (.inl (.nx ρ3))
        | some (.rt o ρ3) => some (.inl (.rt o ρ3))
        | none => none
      | _ => none : Env → Option (Out ⊕ Env)) = f at hn
  refine ⟨fun m σ' H' => ∃ ρ', iterN f m ρ' = some out ∧ Ws X.K H' M ρ' σ' ∧ Kp kp σ σ', ⟨n, ρ, hn, w, .refl _ _⟩, fun m σ1 H1 hW => ?_⟩
  obtain ⟨ρ1, h1, w1, k1⟩ := hW
  cases m with
  | zero =>
    simp only [iterN] at h1
    cases h1
  | succ m =>
    simp only [iterN] at h1
    split at h1
    · cases h1
    · rename_i o h2
      cases h1
      rw [← hf] at h2
      dsimp only at h2
      split at h2
      · rename_i ρ2 h3
        cases h2
        exact ⟨ρ1, false, ρ2, M, h3, w1, fun H2 w2 => iteF (q σ1 H2 k1 w2)⟩
      · rename_i ρ2 h3
        split at h2
        · cases h2
        · cases h2
        · rename_i ρ3 h4
          cases h2
          exact ⟨ρ1, true, ρ2, M, h3, w1, fun H2 w2 => iteT ⟨fun _ _ => False, fun _ _ z => z.elim, ρ2, _, M, h4, w2, fun σ' H' k w' => q σ' H' (k1.trans k) w'⟩⟩
        · rename_i o ρ3 h4
          cases h2
          exact ⟨ρ1, true, ρ2, M, h3, w1, fun H2 w2 => iteT ⟨fun _ _ => False, fun _ _ z => z.elim, ρ2, _, M, h4, w2, fun σ' v H' k w' => q σ' v H' (k1.trans k) w'⟩⟩
        · cases h2
      · cases h2
    · rename_i ρ2 h2
      rw [← hf] at h2
      dsimp only at h2
      split at h2
      · cases h2
      · rename_i ρ3 h3
        split at h2
        · rename_i ρ4 h4
          cases h2
          exact ⟨ρ1, true, ρ3, M, h3, w1, fun H2 w2 => iteT ⟨fun σ' H' => ∃ ρ', iterN f m ρ' = some out ∧ Ws X.K H' M ρ' σ' ∧ Kp kp σ σ', fun σ' H' n => ⟨m, Nat.lt_succ_self _, n⟩, ρ3, _, M, h4, w2, fun σ' H' k w' => ⟨_, h1, w', k1.trans k⟩⟩⟩
        · rename_i ρ4 h4
          cases h2
          exact ⟨ρ1, true, ρ3, M, h3, w1, fun H2 w2 => iteT ⟨fun σ' H' => ∃ ρ', iterN f m ρ' = some out ∧ Ws X.K H' M ρ' σ' ∧ Kp kp σ σ', fun σ' H' n => ⟨m, Nat.lt_succ_self _, n⟩, ρ3, _, M, h4, w2, fun σ' H' k w' => ⟨_, h1, w', k1.trans k⟩⟩⟩
        · cases h2
        · cases h2
        · cases h2
      · cases h2
theorem ss_for {iter : Expr} {x : List Stmt} {xs : List S} {t : Tg} {ik : IK} {ies : List T} (hxe : X.xe = fun _ _ => False) (hc : X.calm = true) (hi : PI X tg iter (tI X.K C ik ies)) (hg : PG X tg (gS X.K t)) (ha : SB X C kp x xs)
    (hs : ∀ x, foldedSetIterable iter X.env x = pure x) (htg : ∀ i ∈ tgSlots t, i ∉ kp) : SS X C kp (.For tg iter x [] pos) (.fr t ik ies xs) := by
  have hp : PassesOwn (model X.prog X.w) X.A X.env X.xe := by
    rw [hxe]
    exact PassesOwn.never
  refine PS.imp (ps_for hp hc hi hg ha hs) fun D σ H z => ?_
  obtain ⟨ρ, out, M, e1, w, q⟩ := z
  simp only [evS] at e1
  split at e1
  · rename_i ios ρ1 h1
    split at e1
    · rename_i ys h2
      generalize hf : (fun x ρ2 => match bindTg t x ρ2 with
          | some ρ3 => evSs C xs ρ3
          | none => none : O → Env → Option Out) = f at e1
      refine ⟨ρ, ios, ρ1, M, ys, h1, h2, w, fun J E H1 it w1 => ?_⟩
      refine ⟨fun i m σ' H' => m = ys.length - i ∧ i ≤ ys.length ∧ ∃ ρ', frGo f (ys.drop i) ρ' = some out ∧ Ws X.K H' (E ++ M) ρ' σ' ∧ Kp kp σ σ',
        ⟨ys.length, by simp, Nat.zero_le _, ρ1, by simpa using e1, w1, .refl _ _⟩, ?_⟩
      rintro i m σ1 H2 ⟨rfl, hi, ρa, hgo, w2, k1⟩
      have w2d := w2.2
      rw [List.append_assoc] at w2d
      by_cases hlt : i < ys.length
      · have hx : ys[i]? = some ys[i] := List.getElem?_eq_getElem hlt
        obtain ⟨go, yl⟩ := it.step i _ hx H2 _ w2d
        rw [List.drop_eq_getElem_cons hlt] at hgo
        simp only [frGo] at hgo
        refine .inr ⟨go, fun σ' H' => ∃ ρ', frGo f (ys.drop (i + 1)) ρ' = some out ∧ Ws X.K H' (E ++ M) ρ' σ' ∧ Kp kp σ σ', fun σ' H' hn => ⟨ys.length - (i + 1), by omega, rfl, hlt, hn⟩, fun v H' y => ?_⟩
        have w4 := yl v H' y
        have w5 : Ws X.K H' ((some ys[i], v) :: (E ++ M)) ρa σ1 := ⟨w2.1, by
          have := w4
          rw [← List.append_assoc] at this
          exact this⟩
        rw [← hf] at hgo
        dsimp only at hgo
        cases hb : bindTg t ys[i] ρa with
        | none =>
          rw [hb] at hgo
          cases hgo
        | some ρ3 =>
          rw [hb] at hgo
          dsimp only at hgo
          refine ⟨ρa, ys[i], ρ3, E ++ M, hb, w5, fun σ2 ag w6 => ?_⟩
          have k2 : Kp kp σ σ2 := k1.trans (ag.kp htg)
          cases hbd : evSs C xs ρ3 with
          | none =>
            rw [hbd] at hgo
            cases hgo
          | some o1 =>
            rw [hbd] at hgo
            refine ⟨ρ3, o1, E ++ M, hbd, w6, ?_⟩
            cases o1 with
            | nx ρ4 =>
              dsimp only at hgo
              rw [hf] at hgo
              exact fun σ' H3 k w' => ⟨ρ4, hgo, w', k2.trans k⟩
            | ct ρ4 =>
              dsimp only at hgo
              rw [hf] at hgo
              exact fun σ' H3 k w' => ⟨ρ4, hgo, w', k2.trans k⟩
            | bk ρ4 =>
              dsimp only at hgo
              cases hgo
              exact fun σ' H3 k w' => q σ' H3 (k2.trans k) (w'.dropL E)
            | rt o ρ4 =>
              dsimp only at hgo
              cases hgo
              exact fun σ' v' H3 k w' => q σ' v' H3 (k2.trans k) (w'.underL E)
      · have e : i = ys.length := by omega
        subst e
        rw [List.drop_length] at hgo
        simp only [frGo] at hgo
        cases hgo
        exact .inl ⟨it.stop _ (Nat.le_refl _) H2 _ w2d, q σ1 H2 k1 (w2.dropL E)⟩
    · cases e1
  · cases e1

/-! ### assignments -/
mutual
def taSlots : Ta → List Nat
  | .nm i => [i]
  | .tp ts => tasSlots ts
  | .st _ _ => []
def tasSlots : List Ta → List Nat
  | [] => []
  | t :: ts => taSlots t ++ tasSlots ts
end
def gA (K : Frag) (C : Cal) (t : Ta) : TG := fun v σ H Q => ∃ ρ o ρ' M, bindTa C t o ρ = some ρ' ∧ Ws K H ((some o, v) :: M) ρ σ ∧ ∀ σ' H', Agree (taSlots t) σ σ' → Ws K H' M ρ' σ' → Q σ' H'
def gAs (K : Frag) (C : Cal) (ts : List Ta) : TGs := fun vs σ H Q => ∃ ρ os ρ' M, bindTas C ts os ρ = some ρ' ∧ os.length = vs.length ∧ Ws K H (ens os vs ++ M) ρ σ ∧ ∀ σ' H', Agree (tasSlots ts) σ σ' → Ws K H' M ρ' σ' → Q σ' H'
theorem a_name {i : Nat} {x : Str} (hN : X.N.Nodup) (hi : X.N[i]? = some x) (hx : Loc X.env.scope x) (hf : X.fn x = true ∨ X.env.scope.names.lookup x = some .local) : PG X (.Name x pos) (gA X.K C (.nm i)) :=
  PG.imp (pg_name hN hi hx hf) fun v σ H Q h => by
    obtain ⟨ρ, o, ρ', M, e1, w, z⟩ := h
    simp only [bindTa] at e1
    split at e1
    · rename_i hl
      cases e1
      exact z _ _ (by simp only [taSlots]; exact Agree.set) (w.store hl)
    · cases e1
theorem a_nil : PGs X [] (gAs X.K C []) := PGs.imp pgs_nil fun vs σ H Q h => by
  obtain ⟨ρ, os, ρ', M, e1, l, w, z⟩ := h
  cases os with
  | nil =>
    simp only [bindTas] at e1
    cases e1
    have : vs = [] := List.eq_nil_of_length_eq_zero l.symm
    subst this
    exact ⟨rfl, z σ H (Agree.refl _ _) w⟩
  | cons _ _ =>
    simp only [bindTas] at e1
    cases e1
theorem a_cons {t : Ta} {ts : List Ta} (h1 : PG X e (gA X.K C t)) (h2 : PGs X es (gAs X.K C ts)) (hs : (assignEach (e :: es) X.env).map (·.2) = assign e X.env :: (assignEach es X.env).map (·.2)) : PGs X (e :: es) (gAs X.K C (t :: ts)) :=
  PGs.imp (pgs_cons h1 h2 hs) fun vs σ H Q h => by
    obtain ⟨ρ, os, ρ', M, e1, l, w, z⟩ := h
    cases os with
    | nil =>
      simp only [bindTas] at e1
      cases e1
    | cons o os =>
      simp only [bindTas] at e1
      split at e1
      · rename_i ρ1 h3
        cases vs with
        | nil => cases l
        | cons v r =>
          have w : Ws X.K H ((some o, v) :: (ens os r ++ M)) ρ σ := w
          refine ⟨v, r, rfl, ρ, o, ρ1, ens os r ++ M, h3, w, fun σ1 H1 a1 w1 => ⟨ρ1, os, ρ', M, e1, by simpa using l, w1, fun σ2 H2 a2 w2 => z σ2 H2 ?_ w2⟩⟩
          simp only [tasSlots]
          exact a1.trans a2
      · cases e1
theorem bindTas_len : ∀ {ts : List Ta} {os : List O} {ρ ρ' : Env}, bindTas C ts os ρ = some ρ' → ts.length = os.length
  | [], [], _, _, _ => rfl
  | t :: ts, o :: os, ρ, ρ', h => by
    simp only [bindTas] at h
    split at h
    · rw [List.length_cons, List.length_cons, bindTas_len h]
    · cases h
  | [], _ :: _, _, _, h => by simp only [bindTas] at h; cases h
  | _ :: _, [], _, _, h => by simp only [bindTas] at h; cases h
theorem a_tup {ts : List Ta} {k : Nat} (hc : X.calm = true) (h : PGs X es (gAs X.K C ts)) (hn : (assignEach es X.env).length = ts.length) (hst : (assignEach es X.env).findIdx? (·.1) = none) : PG X (.Tuple es k pos) (gA X.K C (.tp ts)) :=
  PG.imp (pg_tup hc h hn hst) fun v σ H Q h => by
    obtain ⟨ρ, o, ρ', M, e1, w, z⟩ := h
    simp only [bindTa] at e1
    split at e1
    · rename_i ds
      obtain ⟨c, G, A, s, ⟨B, D, q1, q2, rfl⟩, n, f⟩ := w
      simp only [OwE, Ow, Sh] at q1
      obtain ⟨rfl, a, vs, rfl, ha, hs⟩ := q1
      refine ⟨a, vs, rfl, s.sqT ha, ?_, ρ, ds.map O.sh, ρ', M, e1, by rw [List.length_map]; exact hs.len, ⟨c, G, D, s, ?_, n, f⟩, fun σ' H' ag w' => z σ' H' (by simpa only [taSlots] using ag) w'⟩
      · rw [← hs.len, bindTas_len e1, List.length_map]
      · rw [List.append_assoc]
        exact PL.join _ _ [] D (OwL.pl (OwL.of_sh hs)).1 q2
    · rename_i os
      obtain ⟨c, w⟩ := w
      obtain ⟨a, vs, rfl, ha, l, w2⟩ := Wd.openT (L := M ++ live ρ σ) w
      refine ⟨a, vs, rfl, .of ha, ?_, ρ, os, ρ', M, e1, l, ⟨c, by rw [List.append_assoc]; exact w2.drop⟩, fun σ' H' ag w' => z σ' H' (by simpa only [taSlots] using ag) w'⟩
      rw [← l, bindTas_len e1]
    · cases e1
theorem ens_set {d : PyData} {v : V} : ∀ {os : List O} {vs : List V} {j : Nat} {L : List En}, os.length = vs.length → j < os.length → Wd K H ((some (.sh d), v) :: (ens os vs ++ L)) → Wd K H (ens (os.set j (.sh d)) (vs.set j v) ++ L)
  | [], _, _, _, _, h, _ => by cases h
  | o :: os, [], _, _, l, _, _ => by cases l
  | o :: os, u :: vs, 0, L, l, h, w => by
    have w : Wd K H ((some (.sh d), v) :: (some o, u) :: (ens os vs ++ L)) := w
    exact (w.perm (.swap ..)).drop
  | o :: os, u :: vs, j + 1, L, l, h, w => by
    have w : Wd K H ((some (.sh d), v) :: (some o, u) :: (ens os vs ++ L)) := w
    have p : ((some (O.sh d), v) :: (some o, u) :: (ens os vs ++ L)).Perm ((some (O.sh d), v) :: (ens os vs ++ ((some o, u) :: L))) := List.Perm.cons _ List.perm_middle.symm
    have q := ens_set (j := j) (by simpa using l) (by simpa using h) (w.perm p)
    exact q.perm List.perm_middle
theorem a_st {i : Nat} {o1 : Expr} (hv : PE X o1 (tVar i)) (hi : SO X C e τ) (ha : ∀ v, assign (.Subscript o1 e pos) X.env v = (do
      let ov ← holding [v] (eval o1 X.env)
      let iv ← holding [v, ov] (eval e X.env)
      standAt pos
      holding [v, ov, iv] (setItem ov iv v)
      release [v, ov, iv] [])) : PG X (.Subscript o1 e pos) (gA X.K C (.st i τ)) :=
  PG.imp (pg_sub hv hi set_list ha) fun v σ H Q h => by
    obtain ⟨ρ, o, ρ', M, e1, w, z⟩ := h
    simp only [bindTa] at e1
    split at e1
    · rename_i os0 h0
      split at e1
      · rename_i xs ρ1 h1
        split at e1
        · rename_i k os h2 h3
          split at e1
          · rename_i j h4
            cases e1
            show ∃ ov, σ[i]? = some (some ov) ∧ tOs X.K C [τ] σ H fun vs H2 => rSetL ov (vs.getD 0 .non) v H2 fun H3 => Q σ H3
            obtain ⟨a0, _, hv0, _, _, _, _⟩ := w.shell h0
            refine ⟨_, hv0, opds h1 w fun vs H2 a w2 => ?_⟩
            obtain ⟨G, s, f, _⟩ := w2.look Tin.pushes a h2
            obtain ⟨kv, rfl, hk⟩ := f.one
            cases hk.int
            have w3 := w2.pops.fz
            obtain ⟨a1, ws, hv1, ha1, l, c, w4⟩ := w3.shell h3
            rw [hv0] at hv1
            cases hv1
            have hj := (ixN_seq h4).2.1
            refine ⟨a0, ws, k, j, rfl, rfl, ha1, by rw [← l]; exact h4, z σ _ (Agree.refl _ _) ?_⟩
            refine Ws.refill (M := M) h3 hv0 c ?_ (by rw [List.length_set, List.length_set, l])
            have p : ((none, V.ref a0) :: (ens os ws ++ ((some (O.sh o.d), v) :: M ++ live (ρ1.set i none) σ))).Perm ((some (O.sh o.d), v) :: (ens os ws ++ ((none, V.ref a0) :: (M ++ live (ρ1.set i none) σ)))) := by
              refine (List.Perm.cons _ List.perm_middle).trans ?_
              refine (List.Perm.swap ..).trans (.cons _ List.perm_middle.symm)
            exact (ens_set l hj (w4.perm p)).perm List.perm_middle
          · cases e1
        · cases e1
      · cases e1
    · cases e1
theorem ss_asg {t : Ta} (he : SE X C e τ) (hg : PG X tg (gA X.K C t)) (hs : swapsWithSole [tg] e pos.line X.env = pure false) (hw : swappedStores [tg] e X.env = pure none) (h1 : (assignEach [tg] X.env).map (·.2) = [assign tg X.env]) (hk : ∀ i ∈ taSlots t, i ∉ kp) :
    SS X C kp (.Assign [tg] e pos) (.asg t τ) := PS.imp (ps_asg he hg hs hw h1) fun D σ H z => by
  obtain ⟨ρ, out, M, e1, w, q⟩ := z
  simp only [evS] at e1
  split at e1
  · rename_i o ρ1 h2
    split at e1
    · rename_i ρ2 h3
      cases e1
      exact ⟨ρ, o, ρ1, M, h2, w, fun v H1 w1 => ⟨ρ1, o, ρ2, M, h3, w1, fun σ' H' ag w' => q σ' H' (ag.kp hk) w'⟩⟩
    · cases e1
  · cases e1
/-- name = [..] on one line -/
theorem ss_setLc {i : Nat} {y : Str} {py spos : Pos} {elt iter : Expr} {ifs : List Expr} {scope : Scope} {own : List (Str × Nat)} {t : Tg} {ik : IK} {ies cs : List T} (hc : X.calm = true) (hN : X.N.Nodup) (hy : X.N[i]? = some y) (hyl : X.env.scope.names.lookup y = some .local)
    (hsw : swapsWith (.ListComp elt [⟨tg, iter, ifs, 0⟩] scope pos) (some (.Name y py)) spos.line X.env = pure true) (hi : PI X tg iter (tI X.K C ik ies)) (ok : BlkOk X.N X.env.scope scope own)
    (hg : ∀ (s : Shared) (H : Hp) (B : Addr) (cl : List (Str × Addr)) (fp : List Addr), PG (X.blk s H scope (compEnvC scope cl B X.env) fp) tg (gS X.K t)) (ht : ∀ (s : Shared) (H : Hp) (B : Addr) (cl : List (Str × Addr)) (fp : List Addr), PTs (X.blk s H scope (compEnvC scope cl B X.env) fp) ifs (tBs X.K C cs))
    (he : ∀ (s : Shared) (H : Hp) (B : Addr) (cl : List (Str × Addr)) (fp : List Addr), PE (X.blk s H scope (compEnvC scope cl B X.env) fp) elt (tS X.K C τ)) (hs : ∀ x, foldedSetIterable iter X.env x = pure x)
    (htg : ∀ i ∈ tgSlots t, i ∈ own.map (·.2)) (hk : i ∉ kp) : SS X C kp (.Assign [.Name y py] (.ListComp elt [⟨tg, iter, ifs, 0⟩] scope pos) spos) (.asg (.nm i) (.lc (own.map (·.2)) t ik ies cs τ)) :=
  PS.imp (ps_setLc hc hN hy hyl hsw hi ok hg ht he hs) fun D σ H z => by
    obtain ⟨ρ, out, M, e1, w, q⟩ := z
    simp only [evS] at e1
    split at e1
    · rename_i o ρ1 h2
      split at e1
      · rename_i ρ2 h3
        cases e1
        refine lc_out htg ⟨ρ, o, ρ1, M, h2, w, fun v H1 w1 => ?_⟩
        simp only [bindTa] at h3
        split at h3
        · rename_i hl
          cases h3
          exact q _ _ (Agree.kp (is := [i]) Agree.set (by simpa using hk)) (w1.store hl)
        · cases h3
      · cases e1
    · cases e1
/-- a, b = x, y with plain local names -/
theorem ss_par2 {i j : Nat} {x y : Str} {px py pt : Pos} {kt k2 pt2} {τ2 : T} (hc : X.calm = true) (hN : X.N.Nodup) (hi : X.N[i]? = some x) (hj : X.N[j]? = some y) (hij : i ≠ j)
    (hx : X.env.scope.names.lookup x = some .local) (hy : X.env.scope.names.lookup y = some .local) (ha : SEs X C [a, b] [τ, τ2])
    (hw : swappedStores [.Tuple [.Name x px, .Name y py] kt pt] (.Tuple [a, b] k2 pt2) X.env = pure (some [x, y]))
    (hs : swapsWithSole [.Tuple [.Name x px, .Name y py] kt pt] (.Tuple [a, b] k2 pt2) pos.line X.env = pure false) (hk : i ∉ kp ∧ j ∉ kp) :
    SS X C kp (.Assign [.Tuple [.Name x px, .Name y py] kt pt] (.Tuple [a, b] k2 pt2) pos) (.par [i, j] [τ, τ2]) :=
  PS.imp (ps_par hc hN hi hj hij hx hy ha hw hs) fun D σ H z => by
    obtain ⟨ρ, out, M, e1, w, q⟩ := z
    simp only [evS] at e1
    split at e1
    · rename_i os ρ1 h2
      split at e1
      · rename_i hl
        cases e1
        simp only [List.all_cons, List.all_nil, Bool.and_true, Bool.and_eq_true, decide_eq_true_eq] at hl
        refine evs_run h2 w fun vs H1 l w1 => ?_
        obtain ⟨o, o2, rfl⟩ := evs_two h2
        obtain ⟨v, v2, rfl⟩ : ∃ v v2, vs = [v, v2] := match vs, l with
          | [v, v2], _ => ⟨v, v2, rfl⟩
        have w1 : Ws X.K H1 ((some o, v) :: (some o2, v2) :: M) ρ1 σ := w1
        refine ⟨v, v2, rfl, q _ _ ?_ ?_⟩
        · exact (Agree.kp (is := [i]) Agree.set (by simpa using hk.1)).trans (Agree.kp (is := [j]) Agree.set (by simpa using hk.2))
        · exact (w1.store hl.1).store (by rw [List.length_set]; exact hl.2)
      · cases e1
    · cases e1
theorem evs_three {ρ ρ' : Env} {os : List O} {τ2 τ3 : T} (h : evs C [τ, τ2, τ3] ρ = some (os, ρ')) : ∃ o o2 o3, os = [o, o2, o3] := by
  rw [evs] at h
  split at h
  · split at h
    · rename_i os' ρ2 h2
      cases h
      obtain ⟨o2, o3, rfl⟩ := evs_two h2
      exact ⟨_, _, _, rfl⟩
    · cases h
  · cases h
theorem ss_par3 {i j l : Nat} {x y u : Str} {px py pz pt : Pos} {kt k2 pt2} {τ2 τ3 : T} (hc : X.calm = true) (hN : X.N.Nodup) (hi : X.N[i]? = some x) (hj : X.N[j]? = some y) (hl : X.N[l]? = some u) (hij : i ≠ j) (hil : i ≠ l) (hjl : j ≠ l)
    (hx : X.env.scope.names.lookup x = some .local) (hy : X.env.scope.names.lookup y = some .local) (hu : X.env.scope.names.lookup u = some .local) (ha : SEs X C [a, b, c] [τ, τ2, τ3])
    (hw : swappedStores [.Tuple [.Name x px, .Name y py, .Name u pz] kt pt] (.Tuple [a, b, c] k2 pt2) X.env = pure (some [x, y, u]))
    (hs : swapsWithSole [.Tuple [.Name x px, .Name y py, .Name u pz] kt pt] (.Tuple [a, b, c] k2 pt2) pos.line X.env = pure false) (hk : i ∉ kp ∧ j ∉ kp ∧ l ∉ kp) :
    SS X C kp (.Assign [.Tuple [.Name x px, .Name y py, .Name u pz] kt pt] (.Tuple [a, b, c] k2 pt2) pos) (.par [i, j, l] [τ, τ2, τ3]) :=
  PS.imp (ps_par3 hc hN hi hj hl hij hil hjl hx hy hu ha hw hs) fun D σ H z => by
    obtain ⟨ρ, out, M, e1, w, q⟩ := z
    simp only [evS] at e1
    split at e1
    · rename_i os ρ1 h2
      split at e1
      · rename_i hl
        cases e1
        simp only [List.all_cons, List.all_nil, Bool.and_true, Bool.and_eq_true, decide_eq_true_eq] at hl
        refine evs_run h2 w fun vs H1 l w1 => ?_
        obtain ⟨o, o2, o3, rfl⟩ := evs_three h2
        obtain ⟨v, v2, v3, rfl⟩ : ∃ v v2 v3, vs = [v, v2, v3] := match vs, l with
          | [v, v2, v3], _ => ⟨v, v2, v3, rfl⟩
        have w1 : Ws X.K H1 ((some o, v) :: (some o2, v2) :: (some o3, v3) :: M) ρ1 σ := w1
        refine ⟨v, v2, v3, rfl, q _ _ ?_ ?_⟩
        · exact ((Agree.kp (is := [i]) Agree.set (by simpa using hk.1)).trans (Agree.kp (is := [j]) Agree.set (by simpa using hk.2.1))).trans (Agree.kp (is := [_]) Agree.set (by simpa using hk.2.2))
        · exact ((w1.store hl.1).store (by rw [List.length_set]; exact hl.2.1)).store (by rw [List.length_set, List.length_set]; exact hl.2.2)
      · cases e1
    · cases e1
end
end Qv
end
section
set_option Elab.async false
set_option linter.all false
set_option maxRecDepth 100000
set_option maxHeartbeats 1000000
/-! Q12: small rules that were lacking; what is seen of the text. -/
namespace Qv
open PySem PySem.Spec PyProof.Rows L2

section
variable {X : Cx} {C : Cal} {e a b c f tg o : Expr} {es : List Expr} {τ τa τb τc : T} {τs κs : List T} {pos p pos' apos cpos : Pos}
variable {K : Frag} {H : Hp} {ρ : Env} {σ : L2.St} {M N : List En}

/-! ### a test that is a value of truth -/
theorem t_val {t : TE} (h : PT X e (tTest t)) (w : ∀ σ H Q, tS X.K C τ σ H Q → t σ H Q) : ST X C e τ := PT.imp h fun σ H Q z => by
  obtain ⟨ρ, b, ρ', M, e1, wd, z⟩ := z
  exact w σ H _ ⟨ρ, _, ρ', M, e1, wd, fun v H' w' => ⟨b, w'.bool, z H' w'.drop⟩⟩
theorem t_cmp {op : CmpOp} {r : R2} {k : OpK} (ho : OpR X (compareOp op) r) (pr : PrimOk X.K (r2L r) (prim k)) (ha : SO X C a τa) (hb : SO X C b τb) (hm : behindInMarks op b = false) : ST X C (.Compare a [op] [b] pos) (.op k [τa, τb]) :=
  t_val (pt_cmpR ho ha hb hm) fun σ H Q z => op_sim pr σ H Q z
theorem t_isN {j} (ha : SO X C a τa) : ST X C (.Compare a [.Is] [.Constant .none j p] pos) (.op .isnone [τa]) :=
  t_val (pt_cmpR op_isN ha pe_non (nomark _)) fun σ H Q z => op_sim p_isnone σ H Q z
theorem t_notN {j} (ha : SO X C a τa) : ST X C (.Compare a [.IsNot] [.Constant .none j p] pos) (.op .notnone [τa]) :=
  t_val (pt_cmpR op_notN ha pe_non (nomark _)) fun σ H Q z => op_sim p_notnone σ H Q z

/-! ### lists of arguments -/
def nostar : Expr → Bool
  | .Starred .. => false
  | _ => true
theorem star1 {env : PySem.Env} (h : nostar e = true) : starEach (e :: es) env = (false, eval e env) :: starEach es env := by
  cases e <;> first | rfl | cases h
theorem star_any {env : PySem.Env} : ∀ {es : List Expr}, es.all nostar = true → (backTo pos (starEach es env)).any (·.1) = false
  | [], _ => rfl
  | e :: es, h => by
    rw [List.all_cons, Bool.and_eq_true] at h
    rw [star1 h.1]
    have q := star_any (env := env) h.2
    unfold backTo at q ⊢
    rw [List.map_cons, List.any_cons, q]
    rfl
theorem star_all {env : PySem.Env} : ∀ {es : List Expr}, es.all nostar = true → (backTo pos (starEach es env)).all (fun x => !x.1) = true
  | [], _ => rfl
  | e :: es, h => by
    rw [List.all_cons, Bool.and_eq_true] at h
    rw [star1 h.1]
    have q := star_all (env := env) h.2
    unfold backTo at q ⊢
    rw [List.map_cons, List.all_cons, q]
    rfl
theorem few_ok {env : PySem.Env} (h : es.all nostar = true) (hl : es.length < 30) : ((backTo pos (starEach es env)).all (fun x => !x.1) && (backToKw pos (keywordEach [] env)).all (fun x => x.1.isSome)
      && decide (es.length + ([] : List Keyword).length + (if ([] : List Keyword).isEmpty then 0 else 1) < 30)) = true := by
  rw [star_all h]
  have : decide (es.length + ([] : List Keyword).length + (if ([] : List Keyword).isEmpty then 0 else 1) < 30) = true := decide_eq_true (by simpa using hl)
  rw [this]
  rfl
def notSup : Expr → Bool
  | .Call _ [] _ _ => false
  | _ => true
theorem base_ok {env : PySem.Env} {w : Sem Value} {m : Str} (h : notSup o = true) : attributeBase o m env w = w := by
  unfold attributeBase
  cases o with
  | Call g es kws pos =>
    cases es with
    | nil => cases h
    | cons _ _ => cases g <;> rfl
  | _ => rfl
def noset : Expr → Bool
  | .Set .. => false
  | _ => true
theorem behind_ok {op : CmpOp} (h : noset b = true) : behindInMarks op b = false := by
  cases b <;> first | rfl | cases h
theorem last_ok {op op' : CmpOp} (h : noset c = true) : lastMarks [op, op'] [b, c] = false := by
  unfold lastMarks
  unfold lastMarks
  exact behind_ok h
theorem fold_ok {env : PySem.Env} (h : noset e = true) (x : Value) : foldedSetIterable e env x = pure x := by
  cases e <;> first | rfl | cases h
def noslice : Expr → Bool
  | .Slice .. => false
  | _ => true
theorem plainIx_ok (h : noslice b = true) : PlainIx b := fun o i => by
  cases b <;> first | rfl | cases h
def plainT : Expr → Bool
  | .UnaryOp .. => false
  | .BoolOp .. => false
  | .IfExp .. => false
  | .Compare .. => false
  | _ => true
theorem plainT_ok (h : plainT a = true) : PlainT X a := fun whole => by
  cases a <;> first | rfl | cases h
def nocomp : Expr → Bool
  | .ListComp .. => false
  | .SetComp .. => false
  | .DictComp .. => false
  | _ => true
theorem swaps_ok {env : PySem.Env} {t : Option Expr} {l : Nat} (h : nocomp e = true) : swapsWith e t l env = pure false := by
  cases e <;> first | rfl | cases h
theorem assign1 {env : PySem.Env} (h : nostar e = true) : assignEach (e :: es) env = (false, assign e env) :: assignEach es env := by
  cases e <;> first | rfl | cases h
theorem assign_len {env : PySem.Env} : ∀ {es : List Expr}, es.all nostar = true → (assignEach es env).length = es.length ∧ (assignEach es env).findIdx? (·.1) = none
  | [], _ => ⟨rfl, rfl⟩
  | e :: es, h => by
    rw [List.all_cons, Bool.and_eq_true] at h
    rw [assign1 h.1]
    obtain ⟨q1, q2⟩ := assign_len (env := env) h.2
    refine ⟨by rw [List.length_cons, List.length_cons, q1], ?_⟩
    rw [List.findIdx?_cons]
    simp only [Bool.false_eq_true, if_false, q2, Option.map_none]
theorem sub_ok {env : PySem.Env} {o1 i1 : Expr} (h : noslice i1 = true) (v : Value) : assign (.Subscript o1 i1 pos) env v = (do
      let ov ← holding [v] (eval o1 env)
      let iv ← holding [v, ov] (eval i1 env)
      standAt pos
      holding [v, ov, iv] (setItem ov iv v)
      release [v, ov, iv] []) := by
  cases i1 <;> first | rfl | cases h

/-! ### isinstance -/
def tTys (ts : List String) : TA := fun _ H Q => Q (ts.map V.ty) H
theorem s_isi1 {x : Str} {n : String} (hg : Gl X "isinstance") (hm : X.mg "isinstance" = none) (hg2 : Gl X x) (hm2 : X.mg x = none) (hv : bootBuiltins x = some (.type n)) (hn : x ≠ "__name__") (hd : (x == ("__debug__" : Str)) = false) (hns : nostar a = true) (ha : SO X C a τa) :
    SE X C (.Call (.Name "isinstance" p) [a, .Name x pos'] [] pos) (.op (.isinst [n]) [τa]) := by
  have hb : PE X (.Name x pos') (tC (.ty n)) := pe_bltn hg2 hm2 hv rfl hn hd
  have hA : PA X [a, .Name x pos'] (tCons (tO X.K C τa) (tCons (tC (.ty n)) tNil)) := pa_cons ha (pa_cons hb pa_nil rfl) (star1 hns)
  have q := pe_callB (pos := pos) (p := p) call_isi hg hm rfl hA (by decide) (by decide) (star1 hns) rfl
  exact PE.imp q fun σ H Q z => op_sim (p_isi1 n) σ H Q z
def isNames : List String → List Expr → Bool
  | [], [] => true
  | t :: ts, .Name x _ :: es => (match bootBuiltins x with | some (.type n) => n == t | _ => false) && !(x == ("__name__" : Str)) && !(x == ("__debug__" : Str)) && isNames ts es
  | _, _ => false
theorem pa_types : ∀ {ts : List String} {es : List Expr}, isNames ts es = true → (∀ x q, Expr.Name x q ∈ es → Gl X x ∧ X.mg x = none) → PA X es (tTys ts)
  | [], [], _, _ => pa_nil
  | t :: ts, .Name x q :: es, h, g => by
    simp only [isNames, Bool.and_eq_true, Bool.not_eq_true'] at h
    obtain ⟨⟨⟨h1, h2⟩, h3⟩, h4⟩ := h
    split at h1
    · rename_i n hn
      have e : n = t := by simpa using h1
      subst e
      obtain ⟨g1, g2⟩ := g x q List.mem_cons_self
      have hb : PE X (.Name x q) (tC (.ty n)) := pe_bltn g1 g2 hn rfl (by simpa using h2) h3
      exact pa_cons hb (pa_types h4 fun x q m => g x q (List.mem_cons_of_mem _ m)) rfl
    · cases h1
  | [], _ :: _, h, _ => by cases h
  | t :: ts, [], h, _ => by cases h
  | t :: ts, .Constant .. :: _, h, _ => by cases h
  | t :: ts, .UnaryOp .. :: _, h, _ => by cases h
  | t :: ts, .BinOp .. :: _, h, _ => by cases h
  | t :: ts, .BoolOp .. :: _, h, _ => by cases h
  | t :: ts, .Compare .. :: _, h, _ => by cases h
  | t :: ts, .Call .. :: _, h, _ => by cases h
  | t :: ts, .Attribute .. :: _, h, _ => by cases h
  | t :: ts, .Subscript .. :: _, h, _ => by cases h
  | t :: ts, .IfExp .. :: _, h, _ => by cases h
  | t :: ts, .Tuple .. :: _, h, _ => by cases h
  | t :: ts, .List .. :: _, h, _ => by cases h
  | t :: ts, .Starred .. :: _, h, _ => by cases h
  | t :: ts, .Slice .. :: _, h, _ => by cases h
  | t :: ts, .ListComp .. :: _, h, _ => by cases h
  | t :: ts, .SetComp .. :: _, h, _ => by cases h
  | t :: ts, .DictComp .. :: _, h, _ => by cases h
  | t :: ts, .Set .. :: _, h, _ => by cases h
  | t :: ts, .Dict .. :: _, h, _ => by cases h
  | t :: ts, .Lambda .. :: _, h, _ => by cases h
  | t :: ts, .GeneratorExp .. :: _, h, _ => by cases h
  | t :: ts, .NamedExpr .. :: _, h, _ => by cases h
  | t :: ts, .Yield .. :: _, h, _ => by cases h
  | t :: ts, .YieldFrom .. :: _, h, _ => by cases h
  | t :: ts, .Await .. :: _, h, _ => by cases h
  | t :: ts, .JoinedStr .. :: _, h, _ => by cases h
  | t :: ts, .FormattedValue .. :: _, h, _ => by cases h
theorem s_isiT {ts : List String} {es : List Expr} {k2 : Nat} (hg : Gl X "isinstance") (hm : X.mg "isinstance" = none) (hns : nostar a = true) (hts : isNames ts es = true) (hgs : ∀ x q, Expr.Name x q ∈ es → Gl X x ∧ X.mg x = none) (hsz : ts.length ≤ sizeLine) (ha : SO X C a τa) :
    SE X C (.Call (.Name "isinstance" p) [a, .Tuple es k2 pos'] [] pos) (.op (.isinst ts) [τa]) := by
  have hb : PE X (.Tuple es k2 pos') _ := pe_tup (pa_types hts hgs)
  have hA : PA X [a, .Tuple es k2 pos'] (tCons (tO X.K C τa) (tCons _ tNil)) := pa_cons ha (pa_cons hb pa_nil rfl) (star1 hns)
  have q := pe_callB (pos := pos) (p := p) call_isiT hg hm rfl hA (by decide) (by decide) (star1 hns) rfl
  exact PE.imp q fun σ H Q z => by
    have z2 := op_sim (p_isiT ts) σ H Q z
    refine tO_mono z2 fun x H1 z3 => ?_
    exact ⟨by rw [List.length_map]; exact hsz, fun p hp => z3 p hp⟩

/-! ### changes of a slot's list -/
theorem s_app {i : Nat} (hv : PE X o (tVar i)) (he : SE X C e τ) (hns : nostar e = true) (hb : notSup o = true) (hl : (apos.endLine == cpos.line) = true) : SE X C (.Call (.Attribute o "append" apos) [e] [] cpos) (.app i τ) := by
  have hA : PA X [e] (tCons (tS X.K C τ) tNil) := pa_cons he pa_nil (star1 hns)
  have q := pe_bm (cpos := cpos) (apos := apos) PySem.F.plainAttrs_list PySem.F.slot_list_append PySem.F.type_list_append mt_append hv hA (base_ok hb) (few_ok (by simp [hns]) (by simp)) hl (star1 hns) rfl
  exact PE.imp q fun σ H Q z => app_run z
theorem s_ext {i : Nat} (hv : PE X o (tVar i)) (he : SO X C e τ) (hns : nostar e = true) (hb : notSup o = true) (hl : (apos.endLine == cpos.line) = true) : SE X C (.Call (.Attribute o "extend" apos) [e] [] cpos) (.ext i [τ]) := by
  have hA : PA X [e] (tCons (tO X.K C τ) tNil) := pa_cons he pa_nil (star1 hns)
  have q := pe_bm (cpos := cpos) (apos := apos) PySem.F.plainAttrs_list PySem.F.slot_list_extend PySem.F.type_list_extend mt_extend hv hA (base_ok hb) (few_ok (by simp [hns]) (by simp)) hl (star1 hns) rfl
  exact PE.imp q fun σ H Q z => ext_run z
theorem s_popl {i : Nat} (hv : PE X o (tVar i)) (hb : notSup o = true) (hl : (apos.endLine == cpos.line) = true) : SE X C (.Call (.Attribute o "pop" apos) [] [] cpos) (.popl i) := by
  have q := pe_bm0 (cpos := cpos) (apos := apos) PySem.F.plainAttrs_list PySem.F.slot_list_pop PySem.F.type_list_pop mt_pop hv (base_ok hb) hl
  exact PE.imp q fun σ H Q z => popl_run z
end
end Qv
end
section
set_option Elab.async false
set_option linter.all false
set_option maxRecDepth 100000
set_option maxHeartbeats 1000000
/-! Q13: dict.get; tables of operations. -/
namespace Qv
open PySem PySem.Spec PyProof.Rows L2

section
variable {X : Cx} {C : Cal} {e a b c f tg o : Expr} {es : List Expr} {τ τa τb τc : T} {τs κs : List T} {pos p pos' apos cpos : Pos}
variable {K : Frag} {G H : Hp} {ρ : Env} {σ : L2.St} {M N : List En}

/-! ### dict.get -/
theorem keys_ok : ∀ {kvs : List (PyData × PyData)} {kds : List (Key × PyData)} {xs : List (Key × V)}, keysOf kvs = some kds → ShD K G kvs xs → ShK K G kds xs
  | [], kds, xs, e, h => by
    simp only [keysOf] at e
    cases e
    simp only [ShD] at h
    simpa only [ShK] using h
  | (k, d) :: r, kds, xs, e, h => by
    simp only [ShD] at h
    obtain ⟨key, v, t, rfl, rfl, h1, h2⟩ := h
    cases key with
    | inl i =>
      simp only [kD, keysOf, Option.map_eq_some_iff] at e
      obtain ⟨ks, e1, rfl⟩ := e
      simp only [ShK]
      exact ⟨v, t, rfl, h1, keys_ok e1 h2⟩
    | inr i =>
      simp only [kD, keysOf, Option.map_eq_some_iff] at e
      obtain ⟨ks, e1, rfl⟩ := e
      simp only [ShK]
      exact ⟨v, t, rfl, h1, keys_ok e1 h2⟩
theorem Fo.dict {o : O} {kds : List (Key × PyData)} {v : V} (e : o.dict? = some kds) (s : Sub G H) (h : Fo K G H o v) : ∃ a xs, v = .ref a ∧ H a = some (.dK xs) ∧ ShK K G kds xs := by
  cases o with
  | sh d =>
    cases d with
    | dict kvs =>
      simp only [Fo, Sh] at h
      obtain ⟨a, xs, rfl, ha, q⟩ := h
      exact ⟨a, xs, rfl, s _ _ ha, keys_ok e q⟩
    | _ => simp only [O.dict?] at e; cases e
  | od kvs =>
    obtain ⟨a, xs, ds, rfl, ha, e2, q⟩ := h
    simp only [O.dict?] at e
    rw [e2] at e
    cases e
    exact ⟨a, xs, rfl, ha, q⟩
  | ol _ => simp only [O.dict?] at e; cases e
  | ot _ => simp only [O.dict?] at e; cases e
theorem key_ok {o : O} {k : Key} {v : V} (e : keyOf o.d = some k) (h : Fo K G H o v) : v = kV k := by
  cases o with
  | sh d =>
    cases d with
    | int i =>
      simp only [O.d, keyOf] at e
      cases e
      exact h.int
    | str i =>
      simp only [O.d, keyOf] at e
      cases e
      exact h.str
    | _ => simp only [O.d, keyOf] at e; cases e
  | ol _ => simp only [O.d, keyOf] at e; cases e
  | ot _ => simp only [O.d, keyOf] at e; cases e
  | od _ => simp only [O.d, keyOf] at e; cases e
def rG1 : V → List V → Hp → VK → Prop := fun x xs H Q => ∃ a y o, x = .ref a ∧ xs = [y] ∧ DGet H a y o ∧ Q (o.getD .non) H
def rG2 : V → List V → Hp → VK → Prop := fun x xs H Q => ∃ a y z o, x = .ref a ∧ xs = [y, z] ∧ DGet H a y o ∧ Q (o.getD z) H
theorem get_in {o k : O} {r : O} {x : PyData} {v y z : V} (e : pGet o k x = some r) (s : Sub G H) (h1 : Fo K G H o v) (h2 : Fo K G H k y) (h3 : Sh K G x z) : ∃ a u, v = .ref a ∧ DGet H a y u ∧ Pr K G H r (u.getD z) H := by
  unfold pGet at e
  split at e
  · rename_i kvs key e1 e2
    cases e
    obtain ⟨a, xs, rfl, ha, q⟩ := Fo.dict e1 s h1
    have := key_ok e2 h2
    subst this
    refine ⟨a, _, rfl, .k ha, ?_⟩
    rcases q.get (k := key) with ⟨n1, n2⟩ | ⟨d, w, n1, n2, n3⟩
    · rw [n1, n2]
      exact Pr.same s h3
    · rw [n1, n2]
      exact Pr.same s n3
  · cases e
theorem p_get1 : PrimOk K (rM rG1) (prim .dget1) := by
  intro os o e G H vs Q s g q
  show rM rG1 vs H Q
  have e : pGet1 os = some o := e
  unfold pGet1 at e
  split at e
  · obtain ⟨x, y, rfl, h1, h2⟩ := g.two
    obtain ⟨a, u, rfl, dg, pr⟩ := get_in (z := .non) e s h1 h2 (by simp only [Sh])
    exact ⟨a, y, u, rfl, rfl, dg, q _ _ pr⟩
  · cases e
theorem p_get2 : PrimOk K (rM rG2) (prim .dget2) := by
  intro os o e G H vs Q s g q
  show rM rG2 vs H Q
  have e : pGet2 os = some o := e
  unfold pGet2 at e
  split at e
  · obtain ⟨x, y, z, rfl, h1, h2, h3⟩ := g.three
    obtain ⟨a, u, rfl, dg, pr⟩ := get_in (z := z) e s h1 h2 h3
    exact ⟨a, y, z, u, rfl, rfl, dg, q _ _ pr⟩
  · cases e
theorem ty_dict {k : OpK} (hk : k = .dget1 ∨ k = .dget2) (o : O) (G H : Hp) (x : V) (h : mtyp k o = true) (s : Sub G H) (f : Fo K G H o x) : ∃ a, x = .ref a ∧ IsD H a := by
  cases o with
  | sh d =>
    cases d with
    | dict kvs =>
      simp only [Fo, Sh] at f
      obtain ⟨a, xs, rfl, ha, q⟩ := f
      exact ⟨a, rfl, .inl ⟨xs, .of (s _ _ ha)⟩⟩
    | _ => rcases hk with rfl | rfl <;> exact absurd (show false = true from h) Bool.false_ne_true
  | od kvs =>
    obtain ⟨a, xs, ds, rfl, ha, e2, q⟩ := f
    exact ⟨a, rfl, .inl ⟨xs, .of ha⟩⟩
  | ol _ => rcases hk with rfl | rfl <;> exact absurd (show false = true from h) Bool.false_ne_true
  | ot _ => rcases hk with rfl | rfl <;> exact absurd (show false = true from h) Bool.false_ne_true
theorem s_get1 (hu : X.A.units + 1 < cLine) (ho : SO X C o τ) (he : SO X C e τa) (hb : notSup o = true) (hns : nostar e = true) (hl : (apos.endLine == cpos.line) = true) : SE X C (.Call (.Attribute o "get" apos) [e] [] cpos) (.mth .dget1 τ [τa]) := by
  have m : M1 X o "get" apos e cpos := ⟨base_ok hb, few_ok (by simp [hns]) (by simp), hl, by rw [star1 hns]; rfl⟩
  refine PE.imp (pe_dget1 hu ho he m) fun σ H Q z => ?_
  refine tO_mono (mth_run p_get1 (ty_dict (.inl rfl)) z) fun x H1 ⟨⟨a, e1, d⟩, z2⟩ => ⟨a, e1, d, tO_mono z2 fun y H2 z3 => ?_⟩
  obtain ⟨a2, y2, u, e2, e3, dg, q⟩ := z3
  subst e1
  cases e2
  cases e3
  exact ⟨u, dg, q⟩
theorem s_get2 (hu : X.A.units + 1 < cLine) (ho : SO X C o τ) (he : SO X C e τa) (hf : SO X C f τb) (hb : notSup o = true) (hns : nostar e = true) (hns2 : nostar f = true) (hl : (apos.endLine == cpos.line) = true) : SE X C (.Call (.Attribute o "get" apos) [e, f] [] cpos) (.mth .dget2 τ [τa, τb]) := by
  have m : M2 X o "get" apos e f cpos := ⟨base_ok hb, few_ok (by simp [hns, hns2]) (by simp), hl, by rw [star1 hns, star1 hns2]; rfl⟩
  refine PE.imp (pe_dget2 hu ho he hf m) fun σ H Q z => ?_
  refine tO_mono (mth_run p_get2 (ty_dict (.inr rfl)) z) fun x H1 ⟨⟨a, e1, d⟩, z2⟩ => ⟨a, e1, d, tO_mono z2 fun y H2 z3 => tO_mono z3 fun w H3 z4 => ?_⟩
  obtain ⟨a2, y2, z2', u, e2, e3, dg, q⟩ := z4
  subst e1
  cases e2
  cases e3
  exact ⟨u, dg, q⟩

/-! ### tables -/
def opB : Operator → OpK → Bool
  | .Add, .add => true
  | .Sub, .sub => true
  | .Mult, .mul => true
  | .FloorDiv, .fdiv => true
  | .Mod, .mod => true
  | .Pow, .pow => true
  | _, _ => false
theorem opB_ok {op : Operator} {k : OpK} (h : opB op k = true) : ∃ r, OpR X (binaryOp op) r ∧ PrimOk X.K (r2L r) (prim k) := by
  unfold opB at h
  split at h
  · exact ⟨_, o_add, p_add⟩
  · exact ⟨_, op_sub, p_sub⟩
  · exact ⟨_, o_mul, p_mul⟩
  · exact ⟨_, op_fdivN, p_fdiv⟩
  · exact ⟨_, op_modN, p_mod⟩
  · exact ⟨_, op_pow, p_pow⟩
  · cases h
def cmpB : CmpOp → OpK → Bool
  | .Eq, .eq => true
  | .NotEq, .ne => true
  | .Lt, .lt => true
  | .LtE, .le => true
  | .Gt, .gt => true
  | .GtE, .ge => true
  | .In, .isin => true
  | .NotIn, .notin => true
  | _, _ => false
theorem cmpB_ok {op : CmpOp} {k : OpK} (hu : X.A.units + 64 < cLine) (h : cmpB op k = true) : ∃ r, OpR X (compareOp op) r ∧ PrimOk X.K (r2L r) (prim k) := by
  unfold cmpB at h
  split at h
  · exact ⟨_, o_eq hu, p_eq⟩
  · exact ⟨_, o_ne hu, p_ne⟩
  · exact ⟨_, o_lt, p_cmp _ _⟩
  · exact ⟨_, o_le, p_cmp _ _⟩
  · exact ⟨_, o_gt, p_cmp _ _⟩
  · exact ⟨_, o_ge, p_cmp _ _⟩
  · exact ⟨_, o_in, p_in⟩
  · exact ⟨_, o_notin, p_notin⟩
  · cases h
def blTab : List (Str × OpK) := [("len", .len), ("int", .int1), ("abs", .abs), ("max", .max2), ("min", .min2), ("divmod", .divmod), ("tuple", .tuple1), ("list", .list1), ("dict", .dict1), ("sum", .sum), ("all", .all), ("any", .any), ("repr", .repr)]
theorem blTab_ok (hc : X.calm = true) (hg : X.A.guards = some []) (hu : X.A.units + 64 < cLine) {x : Str} {k : OpK} (h : (x, k) ∈ blTab) : x ≠ "__name__" ∧ (x == ("__debug__" : Str)) = false ∧ ∃ id r, PrimOk X.K r (prim k) ∧
    ((bootBuiltins x = some (.builtin id) ∧ CallR X (.builtin id) r) ∨ (bootBuiltins x = some (.type id) ∧ CallR X (.type id) r)) := by
  simp only [blTab, List.mem_cons, Prod.mk.injEq, List.not_mem_nil, or_false] at h
  rcases h with ⟨rfl, rfl⟩ | ⟨rfl, rfl⟩ | ⟨rfl, rfl⟩ | ⟨rfl, rfl⟩ | ⟨rfl, rfl⟩ | ⟨rfl, rfl⟩ | ⟨rfl, rfl⟩ | ⟨rfl, rfl⟩ | ⟨rfl, rfl⟩ | ⟨rfl, rfl⟩ | ⟨rfl, rfl⟩ | ⟨rfl, rfl⟩ | ⟨rfl, rfl⟩ <;> refine ⟨by decide, by decide, ?_⟩
  · exact ⟨_, _, p_len, .inl ⟨rfl, o_len⟩⟩
  · exact ⟨_, _, p_int, .inr ⟨rfl, call_int1⟩⟩
  · exact ⟨_, _, p_abs, .inl ⟨rfl, call_abs⟩⟩
  · exact ⟨_, _, p_max, .inl ⟨rfl, call_max2 hc⟩⟩
  · exact ⟨_, _, p_min, .inl ⟨rfl, call_min2 hc⟩⟩
  · exact ⟨_, _, p_divmod, .inl ⟨rfl, call_divmod⟩⟩
  · exact ⟨_, _, p_tuple, .inr ⟨rfl, call_tuple_of⟩⟩
  · exact ⟨_, _, p_list, .inr ⟨rfl, call_list_of⟩⟩
  · exact ⟨_, _, p_dict, .inr ⟨rfl, call_dictP hc⟩⟩
  · exact ⟨_, _, p_sum, .inl ⟨rfl, cr_sum hc⟩⟩
  · exact ⟨_, _, p_all, .inl ⟨rfl, cr_all hc⟩⟩
  · exact ⟨_, _, p_any, .inl ⟨rfl, cr_any hc⟩⟩
  · exact ⟨_, _, p_repr, .inl ⟨rfl, o_repr hg hu⟩⟩
def mtTab : List (Str × OpK) := [("join", .join), ("find", .find), ("find", .find3), ("split", .split), ("startswith", .startswith)]
theorem mtTab_ok {x : Str} {k : OpK} (h : (x, k) ∈ mtTab) (ho : SO X C o τ) (ha : SOs X C (e :: es) τs) (hb : notSup o = true) (hns : (e :: es).all nostar = true) (hlen : (e :: es).length < 30) (hl : (apos.endLine == cpos.line) = true) :
    SE X C (.Call (.Attribute o x apos) (e :: es) [] cpos) (.mth k τ τs) := by
  have hn : nostar e = true ∧ es.all nostar = true := by
    rw [List.all_cons, Bool.and_eq_true] at hns
    exact hns
  simp only [mtTab, List.mem_cons, Prod.mk.injEq, List.not_mem_nil, or_false] at h
  rcases h with ⟨rfl, rfl⟩ | ⟨rfl, rfl⟩ | ⟨rfl, rfl⟩ | ⟨rfl, rfl⟩ | ⟨rfl, rfl⟩
  · exact s_strM PySem.F.slot_str_join PySem.F.type_str_join mt_join p_join (by simp) ho ha (base_ok hb) (few_ok hns hlen) hl (star1 hn.1) (star_any hn.2)
  · exact s_strM PySem.F.slot_str_find PySem.F.type_str_find mt_find p_find (by simp) ho ha (base_ok hb) (few_ok hns hlen) hl (star1 hn.1) (star_any hn.2)
  · exact s_strM PySem.F.slot_str_find PySem.F.type_str_find mt_find3 p_find3 (by simp) ho ha (base_ok hb) (few_ok hns hlen) hl (star1 hn.1) (star_any hn.2)
  · exact s_strM PySem.F.slot_str_split PySem.F.type_str_split mt_split p_split (by simp) ho ha (base_ok hb) (few_ok hns hlen) hl (star1 hn.1) (star_any hn.2)
  · exact s_strM PySem.F.slot_str_startswith PySem.F.type_str_startswith mt_startswith p_startswith (by simp) ho ha (base_ok hb) (few_ok hns hlen) hl (star1 hn.1) (star_any hn.2)
end
end Qv
end
section
set_option Elab.async false
set_option linter.all false
set_option maxRecDepth 100000
set_option maxHeartbeats 2000000
/-! Q14: a text is held against a term. -/
namespace Qv
open PySem PySem.Spec PyProof.Rows L2

structure Pg where
  fs : List (Str × List Str)
  cs : List (Str × PyData)
  kw : List (Nat × List Str × Nat × List Nat)
structure Cc where
  N : List Str
  sc : Scope
  fn : Str → Bool
def Cc.blk (c : Cc) (scope : Scope) : Cc := ⟨c.N, relS scope c.sc, fun x => scope.names.lookup x == some .cell⟩
def bnames : List Str := ["isinstance", "len", "int", "abs", "max", "min", "divmod", "tuple", "list", "dict", "sum", "all", "any", "repr", "range", "enumerate", "zip", "bool", "str"]
structure Gd (X : Cx) (g : Pg) (C : Cal) (k : Nat) : Prop where
  calm : X.calm = true
  nd : X.N.Nodup
  room : Room k X.A
  guards : X.A.guards = some []
  units : X.A.units + 64 < cLine
  xe : X.xe = fun _ _ => False
  blt : ∀ x ∈ bnames, X.mg x = none
  cs : ∀ x d, (x, d) ∈ g.cs → ∃ u v, X.mg x = some u ∧ RelV v u ∧ ∀ G, Sh X.K G d v
  fs : ∀ j x ps, g.fs[j]? = some (x, ps) → ∃ f fd, X.mg x = some (.ref f) ∧ PySem.W.keepIn X.K (.ref f) = true ∧ (∀ (s : Shared) (us : List Value), us.length = ps.length → BindsTo s fd ⟨us, []⟩ (ps.zip us)) ∧
    (∀ ks n pm, (j, ks, n, pm) ∈ g.kw → KwB fd ps ks n pm) ∧ FnG X.prog X.w X.K X.mg X.base k f fd ps (spF X.K (C j))
  fair : Fair C
structure At (X : Cx) (c : Cc) : Prop where
  N : X.N = c.N
  sc : X.env.scope = c.sc
  fn : X.fn = c.fn
theorem Gd.blk {X : Cx} {g : Pg} {C : Cal} {k : Nat} (h : Gd X g C k) (s : Shared) (H : Hp) (scope : Scope) (cenv : PySem.Env) (fp : List Addr) : Gd (X.blk s H scope cenv fp) g C k :=
  ⟨h.calm, h.nd, h.room, h.guards, h.units, rfl, h.blt, h.cs, h.fs, h.fair⟩
theorem At.blk {X : Cx} {c : Cc} (h : At X c) (s : Shared) (H : Hp) (scope : Scope) (cl : List (Str × Addr)) (B : Addr) (fp : List Addr) : At (X.blk s H scope (compEnvC scope cl B X.env) fp) (c.blk scope) :=
  ⟨h.N, by show relS scope X.env.scope = relS scope c.sc; rw [h.sc], rfl⟩

/-! ### names -/
def ckN (c : Cc) (i : Nat) : Expr → Bool
  | .Name x _ => decide (c.N[i]? = some x) && (match c.sc.names.lookup x with | some .local => true | some .cell => true | some .free => true | _ => false) && !(x == ("__debug__" : Str)) && !(x == ("__classdict__" : Str))
  | _ => false
def gl (c : Cc) (x : Str) : Bool := decide (c.sc.names.lookup x = some .globalImplicit)
def bn (c : Cc) (x : Str) : Bool := gl c x && bnames.contains x
def ckLoc (c : Cc) (i : Nat) (x : Str) : Bool := decide (c.N[i]? = some x) && (match c.sc.names.lookup x with | some .local => true | some .cell => c.fn x | _ => false)
mutual
def ckTg (c : Cc) : Tg → Expr → Bool
  | .nm i, e => match e with
    | .Name x _ => ckLoc c i x
    | _ => false
  | .tp ts, e => match e with
    | .Tuple es _ _ => ckTgs c ts es
    | _ => false
def ckTgs (c : Cc) : List Tg → List Expr → Bool
  | [], es => es.isEmpty
  | t :: ts, es => match es with
    | e :: es => nostar e && ckTg c t e && ckTgs c ts es
    | [] => false
end
/-- what a term's operation works on -/
def ckOp (c : Cc) (k : OpK) : Expr → Option (List Expr)
  | .BinOp a op b _ => if opB op k then some [a, b] else none
  | .UnaryOp .USub a _ => if k = .neg then some [a] else none
  | .UnaryOp .Not a _ => if k = .nt then some [a] else none
  | .Compare a [.Is] [.Constant .none _ _] _ => if k = .isnone then some [a] else none
  | .Compare a [.IsNot] [.Constant .none _ _] _ => if k = .notnone then some [a] else none
  | .Compare a [op] [b] _ => if cmpB op k && noset b then some [a, b] else none
  | .Subscript a (.Slice none none (some (.UnaryOp .USub (.Constant (.int 1) _ _) _)) _) _ => if k = .back then some [a] else none
  | .Subscript a b _ => if decide (k = .item) && noslice b then some [a, b] else none
  | .Call (.Name x _) (a :: as) [] _ => match k with
    | .isinst ts => match as with
      | [.Tuple es _ _] => if x = "isinstance" ∧ bn c x = true ∧ isNames ts es = true ∧ (es.all fun | .Name y _ => bn c y | _ => false) = true ∧ ts.length ≤ 1000 ∧ nostar a = true then some [a] else none
      | [b] => if x = "isinstance" ∧ bn c x = true ∧ isNames ts [b] = true ∧ ts.length = 1 ∧ ([b].all fun | .Name y _ => bn c y | _ => false) = true ∧ nostar a = true then some [a] else none
      | _ => none
    | .reprl => match a, as with
      | .List es _, [] => if x = "repr" ∧ bn c x = true then some es else none
      | _, _ => none
    | _ => if bn c x && blTab.contains (x, k) then some (a :: as) else none
  | _ => none

/-- each term fits its text -/
def SOl (X : Cx) (C : Cal) : List Expr → List T → Prop
  | [], τs => τs = []
  | e :: es, τs => ∃ τ r, τs = τ :: r ∧ nostar e = true ∧ SE X C e τ ∧ SO X C e τ ∧ SOl X C es r
section
variable {X : Cx} {C : Cal} {g : Pg} {c : Cc} {k : Nat} {e a b : Expr} {es : List Expr} {τ τa τb τc : T} {τs κs : List T} {pos p pos' apos cpos : Pos}
theorem SOl.one (h : SOl X C [a] τs) : ∃ τ, τs = [τ] ∧ nostar a = true ∧ SE X C a τ ∧ SO X C a τ := by
  obtain ⟨τ, r, rfl, h1, h2, h3, h4⟩ := h
  cases (show r = [] from h4)
  exact ⟨τ, rfl, h1, h2, h3⟩
theorem SOl.two (h : SOl X C [a, b] τs) : ∃ τ τ', τs = [τ, τ'] ∧ nostar a = true ∧ SE X C a τ ∧ SO X C a τ ∧ nostar b = true ∧ SE X C b τ' ∧ SO X C b τ' := by
  obtain ⟨τ, r, rfl, h1, h2, h3, h4⟩ := h
  obtain ⟨τ', rfl, h5⟩ := SOl.one h4
  exact ⟨τ, τ', rfl, h1, h2, h3, h5⟩
theorem SOl.stars : ∀ {es : List Expr} {τs : List T}, SOl X C es τs → es.all nostar = true
  | [], _, _ => rfl
  | e :: es, τs, h => by
    obtain ⟨τ, r, rfl, h1, h2, h3, h4⟩ := h
    rw [List.all_cons, h1, SOl.stars h4]
    rfl
theorem SOl.len : ∀ {es : List Expr} {τs : List T}, SOl X C es τs → τs.length = es.length
  | [], _, h => by
    cases (show _ = [] from h)
    rfl
  | e :: es, τs, h => by
    obtain ⟨τ, r, rfl, h1, h2, h3, h4⟩ := h
    rw [List.length_cons, List.length_cons, SOl.len h4]
theorem SOl.os : ∀ {es : List Expr} {τs : List T}, SOl X C es τs → SOs X C es τs
  | [], _, h => by
    cases (show _ = [] from h)
    exact pa_nil
  | e :: es, τs, h => by
    obtain ⟨τ, r, rfl, h1, h2, h3, h4⟩ := h
    exact pa_cons h3 (SOl.os h4) (star1 h1)
theorem SOl.ss : ∀ {es : List Expr} {τs : List T}, SOl X C es τs → SEs X C es τs
  | [], _, h => by
    cases (show _ = [] from h)
    exact pa_nil
  | e :: es, τs, h => by
    obtain ⟨τ, r, rfl, h1, h2, h3, h4⟩ := h
    exact pa_cons h2 (SOl.ss h4) (star1 h1)
theorem SOl.split : ∀ {es fs : List Expr} {τs : List T}, SOl X C (es ++ fs) τs → ∃ τa τb, τs = τa ++ τb ∧ SOl X C es τa ∧ SOl X C fs τb
  | [], fs, τs, h => ⟨[], τs, rfl, rfl, h⟩
  | e :: es, fs, τs, h => by
    obtain ⟨τ, r, rfl, h1, h2, h3, h4⟩ := h
    obtain ⟨ra, rb, rfl, q1, q2⟩ := SOl.split h4
    exact ⟨τ :: ra, rb, rfl, ⟨τ, ra, rfl, h1, h2, h3, q1⟩, q2⟩
theorem gl_ok (A : At X c) {x : Str} (h : gl c x = true) : Gl X x := by
  unfold gl at h
  show X.env.scope.names.lookup x = _
  rw [A.sc]
  exact of_decide_eq_true h
theorem bn_ok (A : At X c) (D : Gd X g C k) {x : Str} (h : bn c x = true) : Gl X x ∧ X.mg x = none := by
  unfold bn at h
  rw [Bool.and_eq_true] at h
  exact ⟨gl_ok A h.1, D.blt x (by simpa using h.2)⟩
theorem ckN_ok (A : At X c) {i : Nat} (h : ckN c i e = true) : PE X e (tVar i) := by
  unfold ckN at h
  split at h
  · rename_i x q
    simp only [Bool.and_eq_true, decide_eq_true_eq, Bool.not_eq_true'] at h
    obtain ⟨⟨⟨h1, h2⟩, h3⟩, h4⟩ := h
    refine pe_var (by rw [A.N]; exact h1) ?_ h3 h4
    show X.env.scope.names.lookup x = _ ∨ X.env.scope.names.lookup x = _ ∨ X.env.scope.names.lookup x = _
    rw [A.sc]
    split at h2
    · rename_i q; exact .inl q
    · rename_i q; exact .inr (.inl q)
    · rename_i q; exact .inr (.inr q)
    · cases h2
  · cases h
theorem ckLoc_ok (A : At X c) {i : Nat} {x : Str} (h : ckLoc c i x = true) : X.N[i]? = some x ∧ L2.Loc X.env.scope x ∧ (X.fn x = true ∨ X.env.scope.names.lookup x = some .local) := by
  unfold ckLoc at h
  simp only [Bool.and_eq_true, decide_eq_true_eq] at h
  obtain ⟨h1, h2⟩ := h
  unfold L2.Loc
  rw [A.N, A.sc, A.fn]
  split at h2
  · rename_i q; exact ⟨h1, .inl q, .inr q⟩
  · rename_i q; exact ⟨h1, .inr q, .inl h2⟩
  · cases h2
mutual
theorem ckTg_ok (A : At X c) (D : Gd X g C k) : ∀ (t : Tg) (e : Expr), ckTg c t e = true → PG X e (gS X.K t)
  | .nm i, e, h => by
    simp only [ckTg] at h
    split at h
    · obtain ⟨h1, h2, h3⟩ := ckLoc_ok A h
      exact g_name D.nd h1 h2 h3
    · cases h
  | .tp ts, e, h => by
    simp only [ckTg] at h
    split at h
    · obtain ⟨q1, q2, q3⟩ := ckTgs_ok A D ts _ h
      obtain ⟨l1, l2⟩ := assign_len (env := X.env) q2
      exact g_tup D.calm q1 (by rw [l1, q3]) l2
    · cases h
theorem ckTgs_ok (A : At X c) (D : Gd X g C k) : ∀ (t : List Tg) (e : List Expr), ckTgs c t e = true → PGs X e (gSs X.K t) ∧ e.all nostar = true ∧ e.length = t.length
  | [], e, h => by
    simp only [ckTgs] at h
    cases e with
    | nil => exact ⟨g_nil, rfl, rfl⟩
    | cons _ _ => cases h
  | t :: ts, e, h => by
    simp only [ckTgs] at h
    split at h
    · simp only [Bool.and_eq_true] at h
      obtain ⟨⟨h1, h2⟩, h3⟩ := h
      obtain ⟨q1, q2, q3⟩ := ckTgs_ok A D ts _ h3
      refine ⟨g_cons (ckTg_ok A D t _ h2) q1 (by rw [assign1 h1]; rfl), by rw [List.all_cons, h1, q2]; rfl, by rw [List.length_cons, List.length_cons, q3]⟩
    · cases h
end
theorem names_bn (A : At X c) (D : Gd X g C k) (h : (es.all fun | .Name y _ => bn c y | _ => false) = true) : ∀ x q, Expr.Name x q ∈ es → Gl X x ∧ X.mg x = none := fun x q m => by
  have := List.all_eq_true.mp h _ m
  exact bn_ok A D this
theorem s_reprl (hg : X.A.guards = some []) (hu : X.A.units + 64 < cLine) (h1 : Gl X "repr") (h2 : X.mg "repr" = none) (hl : SOl X C es τs) : SE X C (.Call (.Name "repr" p) [.List es apos] [] pos) (.op .reprl τs) :=
  PE.imp (pe_callB (o_repr hg hu) h1 h2 rfl (pa_cons (pe_lst hl.os) pa_nil (star1 rfl)) (by decide) (by decide) (star1 rfl) (star_any rfl)) fun σ H Q z => op_sim p_reprl σ H Q z
theorem ckOp_ok (A : At X c) (D : Gd X g C k) {o : OpK} {as : List Expr} (h : ckOp c o e = some as) (hl : SOl X C as τs) : SE X C e (.op o τs) := by
  unfold ckOp at h
  split at h
  · split at h
    · rename_i q
      cases h
      obtain ⟨τ, τ', rfl, n1, e1, o1, n2, e2, o2⟩ := hl.two
      obtain ⟨r, h1, h2⟩ := opB_ok (X := X) q
      exact s_op2 h1 h2 o1 o2
    · cases h
  · split at h
    · rename_i q
      cases h
      subst q
      obtain ⟨τ, rfl, n1, e1, o1⟩ := hl.one
      exact s_un un_neg p_neg o1
    · cases h
  · split at h
    · rename_i q
      cases h
      subst q
      obtain ⟨τ, rfl, n1, e1, o1⟩ := hl.one
      exact s_notT o1
    · cases h
  · split at h
    · rename_i q
      cases h
      subst q
      obtain ⟨τ, rfl, n1, e1, o1⟩ := hl.one
      exact s_isN o1
    · cases h
  · split at h
    · rename_i q
      cases h
      subst q
      obtain ⟨τ, rfl, n1, e1, o1⟩ := hl.one
      exact s_notN o1
    · cases h
  · split at h
    · rename_i q
      cases h
      rw [Bool.and_eq_true] at q
      obtain ⟨τ, τ', rfl, n1, e1, o1, n2, e2, o2⟩ := hl.two
      obtain ⟨r, h1, h2⟩ := cmpB_ok (X := X) D.units q.1
      exact s_cmp h1 h2 o1 o2 (behind_ok q.2)
    · cases h
  · split at h
    · rename_i q
      cases h
      subst q
      obtain ⟨τ, rfl, n1, e1, o1⟩ := hl.one
      exact s_revL o1
    · cases h
  · split at h
    · rename_i q
      cases h
      rw [Bool.and_eq_true] at q
      obtain ⟨q1, q2⟩ := q
      have q1 := of_decide_eq_true q1
      subst q1
      obtain ⟨τ, τ', rfl, n1, e1, o1, n2, e2, o2⟩ := hl.two
      exact s_ix o1 o2 (plainIx_ok q2)
    · cases h
  · split at h
    · split at h
      · split at h
        · rename_i q
          cases h
          obtain ⟨rfl, q1, q2, q3, q4, q5⟩ := q
          obtain ⟨τ, rfl, n1, e1, o1⟩ := hl.one
          obtain ⟨g1, g2⟩ := bn_ok A D q1
          exact s_isiT g1 g2 n1 q2 (names_bn A D q3) (Nat.le_trans q4 (by rw [sizeLine_eq]; omega)) o1
        · cases h
      · split at h
        · rename_i ts as0 b0 nb q
          cases h
          obtain ⟨rfl, q1, q2, q3, q4, q5⟩ := q
          obtain ⟨τ, rfl, n1, e1, o1⟩ := hl.one
          obtain ⟨g1, g2⟩ := bn_ok A D q1
          have hb := names_bn A D q4
          cases b0 with
          | Name y py =>
            obtain ⟨t, rfl⟩ := List.length_eq_one_iff.mp q3
            simp only [isNames, Bool.and_eq_true, Bool.not_eq_true'] at q2
            obtain ⟨⟨⟨z1, z2⟩, z3⟩, _⟩ := q2
            split at z1
            · rename_i n hn
              have e : n = t := by simpa using z1
              subst e
              obtain ⟨b1, b2⟩ := hb y py List.mem_cons_self
              exact s_isi1 g1 g2 b1 b2 hn (by simpa using z2) z3 n1 o1
            · cases z1
          | _ => simp at q4
        · cases h
      · cases h
    · split at h
      · split at h
        · rename_i q
          cases h
          obtain ⟨rfl, q⟩ := q
          obtain ⟨g1, g2⟩ := bn_ok A D q
          exact s_reprl D.guards D.units g1 g2 hl
        · cases h
      · cases h
    · split at h
      · rename_i x0 p0 a0 as0 p1 k0 nk nk2 q
        cases h
        rw [Bool.and_eq_true] at q
        obtain ⟨g1, g2⟩ := bn_ok A D q.1
        obtain ⟨b1, b2, id, r, pr, hh⟩ := blTab_ok D.calm D.guards D.units (List.contains_iff_mem.mp q.2)
        have ns := hl.stars
        rw [List.all_cons, Bool.and_eq_true] at ns
        rcases hh with ⟨hv, cr⟩ | ⟨hv, cr⟩
        · exact s_callB cr pr g1 g2 hv hl.os b1 b2 (star1 ns.1) (star_any ns.2)
        · exact s_callTy cr pr g1 g2 hv hl.os b1 b2 (star1 ns.1) (star_any ns.2)
      · cases h
  · cases h
/-- .. as a test -/
theorem ckOp_test (A : At X c) (D : Gd X g C k) {o : OpK} {as : List Expr} {l : Expr} {ops : List CmpOp} {cs : List Expr} (h : ckOp c o (.Compare l ops cs pos) = some as) (hl : SOl X C as τs) : ST X C (.Compare l ops cs pos) (.op o τs) := by
  generalize he : Expr.Compare l ops cs pos = e at h
  unfold ckOp at h
  split at h
  · cases he
  · cases he
  · cases he
  · split at h
    · rename_i q
      cases h
      subst q
      obtain ⟨τ, rfl, n1, e1, o1⟩ := hl.one
      exact t_isN o1
    · cases h
  · split at h
    · rename_i q
      cases h
      subst q
      obtain ⟨τ, rfl, n1, e1, o1⟩ := hl.one
      exact t_notN o1
    · cases h
  · split at h
    · rename_i q
      cases h
      rw [Bool.and_eq_true] at q
      obtain ⟨τ, τ', rfl, n1, e1, o1, n2, e2, o2⟩ := hl.two
      obtain ⟨r, h1, h2⟩ := cmpB_ok (X := X) D.units q.1
      exact t_cmp h1 h2 o1 o2 (behind_ok q.2)
    · cases h
  · cases he
  · cases he
  · cases he
  · cases h
end
end Qv
end
section
set_option Elab.async false
set_option linter.all false
set_option maxRecDepth 100000
set_option maxHeartbeats 4000000
/-! Q15: expressions held against terms. -/
namespace Qv
open PySem PySem.Spec PyProof.Rows L2

def ckConst : PyData → Const → Bool
  | .none, .none => true
  | .bool a, .bool b => a == b
  | .int a, .int b => decide (a = b)
  | .str a, .str b => decide (a = b)
  | _, _ => false
def eqC : PyData → PyData → Bool
  | .none, .none => true
  | .bool a, .bool b => a == b
  | .int a, .int b => decide (a = b)
  | .str a, .str b => decide (a = b)
  | _, _ => false
theorem eqC_ok {d e : PyData} (h : eqC d e = true) : d = e := by
  unfold eqC at h
  split at h
  · rfl
  · rw [eq_of_beq h]
  · rw [of_decide_eq_true h]
  · rw [of_decide_eq_true h]
  · cases h
def ckC (g : Pg) (c : Cc) (d : PyData) : Expr → Bool
  | .Constant k _ _ => ckConst d k
  | .Name x _ => gl c x && !(x == ("__debug__" : Str)) && g.cs.any fun q => decide (q.1 = x) && eqC q.2 d
  | _ => false
/-- a comprehension's own names -/
def ownOf (N : List Str) (ws : List Nat) : List (Str × Nat) := ws.filterMap fun i => (N[i]?).map fun x => (x, i)
def isTup : Expr → Bool
  | .Tuple .. => true
  | _ => false
/-- what a walk works on -/
def itA (c : Cc) (t : Expr) : IK → Expr → Option (List Expr)
  | .sq, e => some [e]
  | .rng, .Call (.Name x _) [a] [] _ => if x = "range" ∧ bn c x = true then some [a] else none
  | .rng, .Call (.Name x _) [a, b] [] _ => if x = "range" ∧ bn c x = true then some [a, b] else none
  | .en, .Call (.Name x _) [a] [] _ => if x = "enumerate" ∧ bn c x = true ∧ isTup t = true then some [a] else none
  | .zp, .Call (.Name x _) [a, b] [] _ => if x = "zip" ∧ bn c x = true ∧ isTup t = true then some [a, b] else none
  | _, _ => none
def kwNames (kws : List Keyword) : Option (List Str) := kws.mapM (·.arg)
def permB (pm : List Nat) (n : Nat) : Bool := pm.isPerm (List.range n)
mutual
def ckE (g : Pg) : T → Cc → Expr → Bool
  | .c d, c, e => ckC g c d e
  | .nm i, c, e => ckN c i e
  | .mv i, c, e => ckN c i e
  | .tup ts, c, e => match e with
    | .Tuple es _ _ => ckEs g ts c es
    | _ => false
  | .tupo ts, c, e => match e with
    | .Tuple es _ _ => ckEs g ts c es
    | _ => false
  | .lst ts, c, e => match e with
    | .List es _ => ckEs g ts c es
    | _ => false
  | .op k ts, c, e => match ckOp c k e with
    | some es => ckEs g ts c es
    | none => false
  | .mth k t ts, c, e => match e with
    | .Call (.Attribute o m apos) (a :: as) [] cpos => ckE g t c o && ckEs g ts c (a :: as) && notSup o && decide ((a :: as).length < 30) && (apos.endLine == cpos.line) &&
      (mtTab.contains (m, k) || (decide (m = "get") && ((decide (k = .dget1) && decide ((a :: as).length = 1)) || (decide (k = .dget2) && decide ((a :: as).length = 2)))))
    | _ => false
  | .prj t j, c, e => match e with
    | .Subscript a (.Constant (.int i) _ _) _ => ckE g t c a && decide (i = (j : Int))
    | _ => false
  | .sl ts los his, c, e => match e with
    | .Subscript a (.Slice lo hi none _) _ => ckEs g ts c [a] && ckEs g los c lo.toList && ckEs g his c hi.toList
    | _ => false
  | .and2 s t, c, e => match e with
    | .BoolOp .And [a, b] _ => ckE g s c a && ckE g t c b
    | .BoolOp .And (a :: b :: r) pos => ckE g s c a && ckE g t c (.BoolOp .And (b :: r) pos)
    | _ => false
  | .or2 s t, c, e => match e with
    | .BoolOp .Or [a, b] _ => ckE g s c a && ckE g t c b
    | .BoolOp .Or (a :: b :: r) pos => ckE g s c a && ckE g t c (.BoolOp .Or (b :: r) pos)
    | _ => false
  | .ite s t u, c, e => match e with
    | .IfExp q a b _ => ckT g s c q && ckE g t c a && ckE g u c b
    | _ => false
  | .chain k l ts us, c, e => match e with
    | .Compare a [o1, o2] [b, d] _ => cmpB o1 k && cmpB o2 l && noset d && ckEs g ts c [a, b] && ckEs g us c [d]
    | _ => false
  | .tt _, _, _ => false
  | .tn _, _, _ => false
  | .call j ts, c, e => match e with
    | .Call (.Name x _) as [] _ => gl c x && !(x == ("__debug__" : Str)) && (match g.fs[j]? with | some q => decide (q.1 = x) | none => false) && ckEs g ts c as
    | _ => false
  | .lc ws tg ik ies cs t, c, e => match e with
    | .ListComp elt [⟨tg', iter, ifs, ia⟩] scope _ => decide (ia = 0) && decide (ws = (ownOf c.N ws).map (·.2)) && blkC c.N c.sc scope (ownOf c.N ws) && ckTg (c.blk scope) tg tg' && (match itA c tg' ik iter with | some es => ckEs g ies c es | none => false) &&
      ckTs g cs (c.blk scope) ifs && ckE g t (c.blk scope) elt && noset iter && (tgSlots tg).all (ws.contains ·)
    | _ => false
  | .callk j ts pm, c, e => match e with
    | .Call (.Name x _) as kws _ => gl c x && !(x == ("__debug__" : Str)) && (match g.fs[j]? with | some q => decide (q.1 = x) | none => false) && ckEs g ts c (as ++ kws.map (·.value)) && permB pm ts.length &&
      (match kwNames kws with | some ks => g.kw.contains (j, ks, as.length, pm) | none => false)
    | _ => false
  | .app i t, c, e => match e with
    | .Call (.Attribute o m apos) [a] [] cpos => decide (m = "append") && ckN c i o && notSup o && nostar a && (apos.endLine == cpos.line) && ckE g t c a
    | _ => false
  | .ext i ts, c, e => match e with
    | .Call (.Attribute o m apos) [a] [] cpos => decide (m = "extend") && ckN c i o && notSup o && (apos.endLine == cpos.line) && ckEs g ts c [a]
    | _ => false
  | .popl i, c, e => match e with
    | .Call (.Attribute o m apos) [] [] cpos => decide (m = "pop") && ckN c i o && notSup o && (apos.endLine == cpos.line)
    | _ => false
def ckEs (g : Pg) : List T → Cc → List Expr → Bool
  | [], _, es => es.isEmpty
  | t :: ts, c, es => match es with
    | e :: es => nostar e && ckE g t c e && ckEs g ts c es
    | [] => false
def ckT (g : Pg) : T → Cc → Expr → Bool
  | .op k ts, c, e => match e with
    | .Compare l os cs pos => (match ckOp c k (.Compare l os cs pos) with
      | some es => ckEs g ts c es
      | none => false)
    | _ => false
  | .and2 s t, c, e => match e with
    | .BoolOp .And [a, b] _ => ckT g s c a && ckT g t c b
    | .BoolOp .And (a :: b :: r) pos => ckT g s c a && ckT g t c (.BoolOp .And (b :: r) pos)
    | _ => false
  | .or2 s t, c, e => match e with
    | .BoolOp .Or [a, b] _ => ckT g s c a && ckT g t c b
    | .BoolOp .Or (a :: b :: r) pos => ckT g s c a && ckT g t c (.BoolOp .Or (b :: r) pos)
    | _ => false
  | .chain k l ts us, c, e => match e with
    | .Compare a [o1, o2] [b, d] _ => cmpB o1 k && cmpB o2 l && noset d && ckEs g ts c [a, b] && ckEs g us c [d]
    | _ => false
  | .tt t, c, e => plainT e && ckE g t c e
  | .tn t, c, e => match e with
    | .UnaryOp .Not a _ => ckT g t c a
    | _ => false
  | .c _, _, _ => false
  | .nm _, _, _ => false
  | .mv _, _, _ => false
  | .tup _, _, _ => false
  | .tupo _, _, _ => false
  | .lst _, _, _ => false
  | .mth _ _ _, _, _ => false
  | .prj _ _, _, _ => false
  | .sl _ _ _, _, _ => false
  | .ite _ _ _, _, _ => false
  | .call _ _, _, _ => false
  | .lc _ _ _ _ _ _, _, _ => false
  | .callk _ _ _, _, _ => false
  | .app _ _, _, _ => false
  | .ext _ _, _, _ => false
  | .popl _, _, _ => false
def ckTs (g : Pg) : List T → Cc → List Expr → Bool
  | [], _, es => es.isEmpty
  | t :: ts, c, es => match es with
    | [e] => ckT g t c e && ts.isEmpty
    | _ => false
end
section
variable {C : Cal} {g : Pg} {k : Nat}
theorem ckC_ok {X : Cx} {c : Cc} (A : At X c) (D : Gd X g C k) {d : PyData} {e : Expr} (h : ckC g c d e = true) : SE X C e (.c d) := by
  unfold ckC at h
  split at h
  · unfold ckConst at h
    split at h
    · exact s_non
    · rw [eq_of_beq h]
      exact s_bl
    · rw [of_decide_eq_true h]
      exact s_int
    · rw [of_decide_eq_true h]
      exact s_str
    · cases h
  · simp only [Bool.and_eq_true, Bool.not_eq_true', List.any_eq_true, decide_eq_true_eq] at h
    obtain ⟨⟨h1, h2⟩, ⟨y, d2⟩, hm, e1, e2⟩ := h
    cases e1
    cases eqC_ok e2
    obtain ⟨u, v, h3, h4, h5⟩ := D.cs _ _ hm
    exact s_cst (pe_glob (gl_ok A h1) h3 h4 h2) h5
  · cases h
theorem itA_ok {X : Cx} {c : Cc} (A : At X c) (D : Gd X g C k) {tg e : Expr} {ik : IK} {es : List Expr} {τs : List T} (h : itA c tg ik e = some es) (hl : SOl X C es τs) : PI X tg e (tI X.K C ik τs) := by
  unfold itA at h
  split at h
  · cases h
    obtain ⟨τ, rfl, n1, e1, o1⟩ := hl.one
    exact i_sq e1
  · split at h
    · rename_i q
      cases h
      obtain ⟨rfl, q1⟩ := q
      obtain ⟨g1, g2⟩ := bn_ok A D q1
      have ss := hl.ss
      obtain ⟨τ, rfl, n1, e1, o1⟩ := hl.one
      exact i_rng1 g1 g2 ss (star1 n1)
    · cases h
  · split at h
    · rename_i q
      cases h
      obtain ⟨rfl, q1⟩ := q
      obtain ⟨g1, g2⟩ := bn_ok A D q1
      have ss := hl.ss
      obtain ⟨τ, τ', rfl, n1, e1, o1, n2, e2, o2⟩ := hl.two
      exact i_rng2 g1 g2 ss (by rw [star1 n1, star1 n2]; rfl) (star1 n2)
    · cases h
  · split at h
    · rename_i q
      cases h
      obtain ⟨rfl, q1, q2⟩ := q
      obtain ⟨g1, g2⟩ := bn_ok A D q1
      have ss := hl.ss
      obtain ⟨τ, rfl, n1, e1, o1⟩ := hl.one
      cases tg with
      | Tuple elts kk tp => exact i_en g1 g2 ss (star1 n1)
      | _ => cases q2
    · cases h
  · split at h
    · rename_i q
      cases h
      obtain ⟨rfl, q1, q2⟩ := q
      obtain ⟨g1, g2⟩ := bn_ok A D q1
      have ss := hl.ss
      obtain ⟨τ, τ', rfl, n1, e1, o1, n2, e2, o2⟩ := hl.two
      cases tg with
      | Tuple elts kk tp => exact i_zp g1 g2 ss (by rw [star1 n1, star1 n2]; rfl) (star1 n2)
      | _ => cases q2
    · cases h
  · cases h
theorem SOl.pk {X : Cx} : ∀ {kws : List Keyword} {τs : List T}, SOl X C (kws.map (·.value)) τs → PK X kws (tOs X.K C τs)
  | [], _, h => by
    cases (show _ = [] from h)
    exact pk_nil
  | ⟨nm, e, kp⟩ :: kws, τs, h => by
    obtain ⟨τ, r, rfl, h1, h2, h3, h4⟩ := h
    exact pk_cons h3 (SOl.pk h4)
theorem kw_ok {env : PySem.Env} {pos : Pos} : ∀ {kws : List Keyword} {ks : List Str}, kwNames kws = some ks → (backToKw pos (keywordEach kws env)).all (·.1.isSome) = true ∧ (backToKw pos (keywordEach kws env)).filterMap (·.1) = ks ∧
    (backToKw pos (keywordEach kws env)).any (·.1.isNone) = false ∧ kws.length = ks.length
  | [], ks, h => by
    simp only [kwNames, List.mapM_nil] at h
    cases h
    exact ⟨rfl, rfl, rfl, rfl⟩
  | ⟨nm, e, kp⟩ :: kws, ks, h => by
    simp only [kwNames, List.mapM_cons] at h
    cases nm with
    | none => cases h
    | some n =>
      cases q : kws.mapM (·.arg) with
      | none => rw [q] at h; cases h
      | some r =>
        rw [q] at h
        cases h
        obtain ⟨h1, h2, h3, h4⟩ := kw_ok (env := env) (pos := pos) (kws := kws) (ks := r) q
        unfold backToKw at h1 h2 h3 ⊢
        refine ⟨?_, ?_, ?_, by rw [List.length_cons, List.length_cons, h4]⟩
        · show (List.map _ ((some n, eval e env) :: keywordEach kws env)).all _ = true
          rw [List.map_cons, List.all_cons, h1]
          rfl
        · show (List.map _ ((some n, eval e env) :: keywordEach kws env)).filterMap _ = _
          rw [List.map_cons, List.filterMap_cons, h2]
        · show (List.map _ ((some n, eval e env) :: keywordEach kws env)).any _ = false
          rw [List.map_cons, List.any_cons, h3]
          rfl
/-- a term's two sides -/
theorem so_se {X : Cx} {e : Expr} {τ : T} (hn : isNm τ = none) (h : SE X C e τ) : SE X C e τ ∧ SO X C e τ := ⟨h, so_of h hn⟩
def STW (X : Cx) (C : Cal) (e : Expr) (τ : T) : Prop := ST X C e τ ∧ ∀ op es pos, e = .BoolOp op es pos → SW X C e τ
theorem stw {X : Cx} {e : Expr} {τ : T} (h : ST X C e τ) (n : ∀ op es pos, e ≠ .BoolOp op es pos) : STW X C e τ := ⟨h, fun op es pos q => absurd q (n op es pos)⟩
end
end Qv
end
section
set_option Elab.async false
set_option linter.all false
set_option maxRecDepth 100000
set_option maxHeartbeats 4000000
/-! Q16: what is held against a term computes what the term does. -/
namespace Qv
open PySem PySem.Spec PyProof.Rows L2

section
variable {C : Cal} {g : Pg} {k : Nat}
theorem permB_ok {pm : List Nat} {n : Nat} (h : permB pm n = true) : pm.Perm (List.range n) := List.isPerm_iff.mp h
theorem po_list {X : Cx} {lo : Option Expr} {los : List T} (h : SOl X C lo.toList los) : PO X lo (tP X.K C los) := by
  cases lo with
  | none =>
    cases (show los = [] from h)
    exact po_nil
  | some a =>
    obtain ⟨τ, rfl, n1, e1, o1⟩ := SOl.one h
    exact po_one o1
theorem fs_ok {X : Cx} {c : Cc} (A : At X c) (D : Gd X g C k) {j : Nat} {x : Str} (h : (match g.fs[j]? with | some q => decide (q.1 = x) | none => false) = true) :
    ∃ ps f fd, X.mg x = some (.ref f) ∧ PySem.W.keepIn X.K (.ref f) = true ∧ (∀ (s : Shared) (us : List Value), us.length = ps.length → BindsTo s fd ⟨us, []⟩ (ps.zip us)) ∧
    (∀ ks n pm, (j, ks, n, pm) ∈ g.kw → KwB fd ps ks n pm) ∧ FnG X.prog X.w X.K X.mg X.base k f fd ps (spF X.K (C j)) := by
  split at h
  · rename_i q e
    obtain ⟨y, ps⟩ := q
    have e1 := of_decide_eq_true h
    cases e1
    obtain ⟨f, fd, r⟩ := D.fs j _ ps e
    exact ⟨ps, f, fd, r⟩
  · cases h
theorem callk_ok {X : Cx} {c : Cc} (A : At X c) (D : Gd X g C k) {j : Nat} {ts : List T} {pm : List Nat} {x : Str} {as : List Expr} {kws : List Keyword} {p pos : Pos} (h1 : gl c x = true) (h2 : (x == ("__debug__" : Str)) = false)
    (h3 : (match g.fs[j]? with | some q => decide (q.1 = x) | none => false) = true) (h4 : SOl X C (as ++ kws.map (·.value)) ts) (h5 : permB pm ts.length = true)
    (h6 : (match kwNames kws with | some ks => g.kw.contains (j, ks, as.length, pm) | none => false) = true) : SE X C (.Call (.Name x p) as kws pos) (.callk j ts pm) := by
  obtain ⟨ps, f, fd, m1, m2, m3, m4, F⟩ := fs_ok A D h3
  split at h6
  · rename_i ks hks
    have hb := m4 ks _ pm (List.contains_iff_mem.mp h6)
    obtain ⟨τa, τb, rfl, q1, q2⟩ := h4.split
    obtain ⟨k1, k2, k3, k4⟩ := kw_ok (env := X.env) (pos := pos) hks
    have l2 : τb.length = ks.length := by rw [q2.len, List.length_map, k4]
    cases as with
    | nil =>
      cases (show τa = [] from q1)
      refine s_callk0 D.fair F D.room D.guards (gl_ok A h1) m1 m2 hb q2.pk l2 (permB_ok h5) k1 k2 h2 ?_
      rw [k3]
      rfl
    | cons e es =>
      have ns := q1.stars
      have ns' := ns
      rw [List.all_cons, Bool.and_eq_true] at ns'
      refine s_callk D.fair F D.room D.guards (gl_ok A h1) m1 m2 hb q1.os q2.pk q1.len l2 (permB_ok h5) k1 k2 h2 (star1 ns'.1) ?_
      rw [k3, star_any ns]
      rfl
  · cases h6
theorem call_ok {X : Cx} {c : Cc} (A : At X c) (D : Gd X g C k) {j : Nat} {ts : List T} {x : Str} {as : List Expr} {p pos : Pos} (h1 : gl c x = true) (h2 : (x == ("__debug__" : Str)) = false)
    (h3 : (match g.fs[j]? with | some q => decide (q.1 = x) | none => false) = true) (h4 : SOl X C as ts) : SE X C (.Call (.Name x p) as [] pos) (.call j ts) := by
  obtain ⟨ps, f, fd, m1, m2, m3, m4, F⟩ := fs_ok A D h3
  cases as with
  | nil =>
    cases (show ts = [] from h4)
    exact s_call0 D.fair F D.room D.guards (gl_ok A h1) m1 m2 m3 h2
  | cons e es =>
    have ns := h4.stars
    rw [List.all_cons, Bool.and_eq_true] at ns
    exact s_call D.fair F D.room D.guards (gl_ok A h1) m1 m2 m3 h4.os h2 (star1 ns.1) (star_any ns.2)
theorem mth_ok {X : Cx} {c : Cc} (D : Gd X g C k) {o a : Expr} {as : List Expr} {m : Str} {apos cpos : Pos} {κ : OpK} {t : T} {ts : List T} (ho : SO X C o t) (h2 : SOl X C (a :: as) ts) (h3 : notSup o = true) (h4 : (a :: as).length < 30) (h5 : (apos.endLine == cpos.line) = true)
    (h6 : (mtTab.contains (m, κ) || (decide (m = "get") && ((decide (κ = .dget1) && decide ((a :: as).length = 1)) || (decide (κ = .dget2) && decide ((a :: as).length = 2))))) = true) : SE X C (.Call (.Attribute o m apos) (a :: as) [] cpos) (.mth κ t ts) := by
  rw [Bool.or_eq_true] at h6
  rcases h6 with h6 | h6
  · exact mtTab_ok (List.contains_iff_mem.mp h6) ho h2.os h3 h2.stars h4 h5
  · simp only [Bool.and_eq_true, Bool.or_eq_true, decide_eq_true_eq] at h6
    have hu : X.A.units + 1 < cLine := Nat.lt_of_le_of_lt (by omega) D.units
    obtain ⟨rfl, h6⟩ := h6
    rcases h6 with ⟨rfl, l⟩ | ⟨rfl, l⟩
    · match as, l with
      | [], _ =>
        obtain ⟨τ, rfl, n1, e1, o1⟩ := h2.one
        exact s_get1 hu ho o1 h3 n1 h5
    · match as, l with
      | [b], _ =>
        obtain ⟨τ, τ', rfl, n1, e1, o1, n2, e2, o2⟩ := h2.two
        exact s_get2 hu ho o1 o2 h3 n1 n2 h5
theorem chain_ok {X : Cx} (D : Gd X g C k) {a b d : Expr} {o1 o2 : CmpOp} {κ l : OpK} {ts us : List T} {pos : Pos} (h1 : cmpB o1 κ = true) (h2 : cmpB o2 l = true) (h3 : noset d = true) (h4 : SOl X C [a, b] ts) (h5 : SOl X C [d] us) :
    SE X C (.Compare a [o1, o2] [b, d] pos) (.chain κ l ts us) ∧ ST X C (.Compare a [o1, o2] [b, d] pos) (.chain κ l ts us) := by
  obtain ⟨τ, τ', rfl, n1, e1, p1, n2, e2, p2⟩ := h4.two
  obtain ⟨υ, rfl, n3, e3, p3⟩ := h5.one
  obtain ⟨r, r1, r2⟩ := cmpB_ok (X := X) D.units h1
  obtain ⟨r', r3, r4⟩ := cmpB_ok (X := X) D.units h2
  exact ⟨s_chain r1 r3 r2 r4 p1 p2 p3 (last_ok h3), t_val (pt_chain r1 r3 p1 p2 p3 (last_ok h3)) fun σ H Q z => chain_run r1 r3 r2 r4 σ H Q z⟩
/-- the parts of a comprehension -/
structure LcP (X : Cx) (C : Cal) (elt tg iter : Expr) (ifs : List Expr) (scope : Scope) (ws : List Nat) (t : Tg) (ik : IK) (ies cs : List T) (τ : T) : Prop where
  own : ∃ own : List (Str × Nat), ws = own.map (·.2) ∧ BlkOk X.N X.env.scope scope own
  it : PI X tg iter (tI X.K C ik ies)
  tg : ∀ (s : Shared) (H : Hp) (B : Addr) (cl : List (Str × Addr)) (fp : List Addr), PG (X.blk s H scope (compEnvC scope cl B X.env) fp) tg (gS X.K t)
  ifs : ∀ (s : Shared) (H : Hp) (B : Addr) (cl : List (Str × Addr)) (fp : List Addr), PTs (X.blk s H scope (compEnvC scope cl B X.env) fp) ifs (tBs X.K C cs)
  elt : ∀ (s : Shared) (H : Hp) (B : Addr) (cl : List (Str × Addr)) (fp : List Addr), PE (X.blk s H scope (compEnvC scope cl B X.env) fp) elt (tS X.K C τ)
  st : noset iter = true
  sl : ∀ i ∈ tgSlots t, i ∈ ws
theorem LcP.se {X : Cx} (D : Gd X g C k) {elt tg iter : Expr} {ifs : List Expr} {scope : Scope} {ws : List Nat} {t : Tg} {ik : IK} {ies cs : List T} {τ : T} {pos : Pos} (L : LcP X C elt tg iter ifs scope ws t ik ies cs τ) :
    SE X C (.ListComp elt [⟨tg, iter, ifs, 0⟩] scope pos) (.lc ws t ik ies cs τ) := by
  obtain ⟨⟨own, rfl, ok⟩, it, tgp, ip, ep, st, sl⟩ := L
  exact s_lc D.calm D.nd it ok tgp ip ep (fold_ok st) sl
mutual
theorem ckE_ok : ∀ (τ : T) {X : Cx} {c : Cc} (e : Expr), At X c → Gd X g C k → ckE g τ c e = true → SE X C e τ ∧ SO X C e τ
  | .c d, X, c, e, A, D, h => by
    simp only [ckE] at h
    exact so_se rfl (ckC_ok A D h)
  | .nm i, X, c, e, A, D, h => by
    simp only [ckE] at h
    exact ⟨s_nm (ckN_ok A h), so_nm (ckN_ok A h)⟩
  | .mv i, X, c, e, A, D, h => by
    simp only [ckE] at h
    exact so_se rfl (s_mv (ckN_ok A h))
  | .tup ts, X, c, e, A, D, h => by
    simp only [ckE] at h
    split at h
    · exact so_se rfl (s_tup (ckEs_ok ts _ A D h).ss)
    · cases h
  | .tupo ts, X, c, e, A, D, h => by
    simp only [ckE] at h
    split at h
    · exact so_se rfl (s_tupo (ckEs_ok ts _ A D h).ss)
    · cases h
  | .lst ts, X, c, e, A, D, h => by
    simp only [ckE] at h
    split at h
    · exact so_se rfl (s_lst (ckEs_ok ts _ A D h).ss)
    · cases h
  | .op o ts, X, c, e, A, D, h => by
    simp only [ckE] at h
    split at h
    · rename_i es he
      exact so_se rfl (ckOp_ok A D he (ckEs_ok ts _ A D h))
    · cases h
  | .mth o t ts, X, c, e, A, D, h => by
    simp only [ckE] at h
    split at h
    · rw [Bool.and_eq_true, Bool.and_eq_true, Bool.and_eq_true, Bool.and_eq_true, Bool.and_eq_true] at h
      obtain ⟨⟨⟨⟨⟨h1, h2⟩, h3⟩, h4⟩, h5⟩, h6⟩ := h
      exact so_se rfl (mth_ok (c := c) D (ckE_ok t _ A D h1).2 (ckEs_ok ts _ A D h2) h3 (of_decide_eq_true h4) h5 h6)
    · cases h
  | .prj t j, X, c, e, A, D, h => by
    simp only [ckE] at h
    split at h
    · rw [Bool.and_eq_true] at h
      have e1 := of_decide_eq_true h.2
      subst e1
      exact so_se rfl (s_prj (ckE_ok t _ A D h.1).1)
    · cases h
  | .sl ts los his, X, c, e, A, D, h => by
    simp only [ckE] at h
    split at h
    · rw [Bool.and_eq_true, Bool.and_eq_true] at h
      obtain ⟨τ, rfl, n1, e1, o1⟩ := (ckEs_ok ts _ A D h.1.1).one
      exact so_se rfl (s_sl o1 (po_list (ckEs_ok los _ A D h.1.2)) (po_list (ckEs_ok his _ A D h.2)))
    · cases h
  | .and2 s t, X, c, e, A, D, h => by
    simp only [ckE] at h
    split at h
    · rw [Bool.and_eq_true] at h
      exact so_se rfl (s_and (ckE_ok s _ A D h.1).1 (s_one (ckE_ok t _ A D h.2).1))
    · rw [Bool.and_eq_true] at h
      exact so_se rfl (s_and (ckE_ok s _ A D h.1).1 (ckE_ok t _ A D h.2).1)
    · cases h
  | .or2 s t, X, c, e, A, D, h => by
    simp only [ckE] at h
    split at h
    · rw [Bool.and_eq_true] at h
      exact so_se rfl (s_or (ckE_ok s _ A D h.1).1 (s_one (ckE_ok t _ A D h.2).1))
    · rw [Bool.and_eq_true] at h
      exact so_se rfl (s_or (ckE_ok s _ A D h.1).1 (ckE_ok t _ A D h.2).1)
    · cases h
  | .ite s t u, X, c, e, A, D, h => by
    simp only [ckE] at h
    split at h
    · rw [Bool.and_eq_true, Bool.and_eq_true] at h
      exact so_se rfl (s_ite (ckT_ok s _ A D h.1.1).1 (ckE_ok t _ A D h.1.2).1 (ckE_ok u _ A D h.2).1)
    · cases h
  | .chain o l ts us, X, c, e, A, D, h => by
    simp only [ckE] at h
    split at h
    · rw [Bool.and_eq_true, Bool.and_eq_true, Bool.and_eq_true, Bool.and_eq_true] at h
      obtain ⟨⟨⟨⟨h1, h2⟩, h3⟩, h4⟩, h5⟩ := h
      exact so_se rfl (chain_ok D h1 h2 h3 (ckEs_ok ts _ A D h4) (ckEs_ok us _ A D h5)).1
    · cases h
  | .tt _, X, c, e, A, D, h => by
    simp only [ckE] at h
    cases h
  | .tn _, X, c, e, A, D, h => by
    simp only [ckE] at h
    cases h
  | .call j ts, X, c, e, A, D, h => by
    simp only [ckE] at h
    split at h
    · rw [Bool.and_eq_true, Bool.and_eq_true, Bool.and_eq_true, Bool.not_eq_true'] at h
      obtain ⟨⟨⟨h1, h2⟩, h3⟩, h4⟩ := h
      exact so_se rfl (call_ok A D h1 h2 h3 (ckEs_ok ts _ A D h4))
    · cases h
  | .lc ws tg ik ies cs t, X, c, e, A, D, h => by
    simp only [ckE] at h
    split at h
    · rename_i elt tg' iter ifs ia scope pos
      rw [Bool.and_eq_true, Bool.and_eq_true, Bool.and_eq_true, Bool.and_eq_true, Bool.and_eq_true, Bool.and_eq_true, Bool.and_eq_true, Bool.and_eq_true] at h
      obtain ⟨⟨⟨⟨⟨⟨⟨⟨h0, h1⟩, h2⟩, h3⟩, h4⟩, h5⟩, h6⟩, h7⟩, h8⟩ := h
      have h0 := of_decide_eq_true h0
      subst h0
      refine so_se rfl (LcP.se D (g := g) (k := k) ⟨⟨ownOf c.N ws, of_decide_eq_true h1, ?_⟩, ?_, fun s H B cl fp => ?_, fun s H B cl fp => ?_, fun s H B cl fp => ?_, h7, fun i hi => ?_⟩)
      · rw [A.N, A.sc]
        exact blkOk_by h2
      · split at h4
        · rename_i es he
          exact itA_ok A D he (ckEs_ok ies _ A D h4)
        · cases h4
      · exact ckTg_ok (A.blk s H scope cl B fp) (D.blk s H scope _ fp) tg _ h3
      · exact ckTs_ok cs _ (A.blk s H scope cl B fp) (D.blk s H scope _ fp) h5
      · exact (ckE_ok t _ (A.blk s H scope cl B fp) (D.blk s H scope _ fp) h6).1
      · have := List.all_eq_true.mp h8 i hi
        exact List.contains_iff_mem.mp this
    · cases h
  | .callk j ts pm, X, c, e, A, D, h => by
    simp only [ckE] at h
    split at h
    · rw [Bool.and_eq_true, Bool.and_eq_true, Bool.and_eq_true, Bool.and_eq_true, Bool.and_eq_true, Bool.not_eq_true'] at h
      obtain ⟨⟨⟨⟨⟨h1, h2⟩, h3⟩, h4⟩, h5⟩, h6⟩ := h
      exact so_se rfl (callk_ok A D h1 h2 h3 (ckEs_ok ts _ A D h4) h5 h6)
    · cases h
  | .app i t, X, c, e, A, D, h => by
    simp only [ckE] at h
    split at h
    · rw [Bool.and_eq_true, Bool.and_eq_true, Bool.and_eq_true, Bool.and_eq_true, Bool.and_eq_true] at h
      obtain ⟨⟨⟨⟨⟨h1, h2⟩, h3⟩, h4⟩, h5⟩, h6⟩ := h
      have h1 := of_decide_eq_true h1
      subst h1
      exact so_se rfl (s_app (ckN_ok A h2) (ckE_ok t _ A D h6).1 h4 h3 h5)
    · cases h
  | .ext i ts, X, c, e, A, D, h => by
    simp only [ckE] at h
    split at h
    · rw [Bool.and_eq_true, Bool.and_eq_true, Bool.and_eq_true, Bool.and_eq_true] at h
      obtain ⟨⟨⟨⟨h1, h2⟩, h3⟩, h5⟩, h6⟩ := h
      have h1 := of_decide_eq_true h1
      subst h1
      obtain ⟨τ, rfl, n1, e1, o1⟩ := (ckEs_ok ts _ A D h6).one
      exact so_se rfl (s_ext (ckN_ok A h2) o1 n1 h3 h5)
    · cases h
  | .popl i, X, c, e, A, D, h => by
    simp only [ckE] at h
    split at h
    · rw [Bool.and_eq_true, Bool.and_eq_true, Bool.and_eq_true] at h
      obtain ⟨⟨⟨h1, h2⟩, h3⟩, h5⟩ := h
      have h1 := of_decide_eq_true h1
      subst h1
      exact so_se rfl (s_popl (ckN_ok A h2) h3 h5)
    · cases h
theorem ckEs_ok : ∀ (τs : List T) {X : Cx} {c : Cc} (es : List Expr), At X c → Gd X g C k → ckEs g τs c es = true → SOl X C es τs
  | [], X, c, es, A, D, h => by
    simp only [ckEs] at h
    cases es with
    | nil => exact rfl
    | cons _ _ => cases h
  | t :: ts, X, c, es, A, D, h => by
    simp only [ckEs] at h
    split at h
    · rw [Bool.and_eq_true, Bool.and_eq_true] at h
      obtain ⟨q1, q2⟩ := ckE_ok t _ A D h.1.2
      exact ⟨t, ts, rfl, h.1.1, q1, q2, ckEs_ok ts _ A D h.2⟩
    · cases h
theorem ckT_ok : ∀ (τ : T) {X : Cx} {c : Cc} (e : Expr), At X c → Gd X g C k → ckT g τ c e = true → STW X C e τ
  | .op o ts, X, c, e, A, D, h => by
    simp only [ckT] at h
    split at h
    · split at h
      · rename_i es he
        exact stw (ckOp_test A D he (ckEs_ok ts _ A D h)) (fun _ _ _ q => by cases q)
      · cases h
    · cases h
  | .and2 s t, X, c, e, A, D, h => by
    simp only [ckT] at h
    split at h
    · rw [Bool.and_eq_true] at h
      exact ⟨PW.pt (t_and (ckT_ok s _ A D h.1).1 (t_and1 (ckT_ok t _ A D h.2).1)), fun _ _ _ _ => t_and (ckT_ok s _ A D h.1).1 (t_and1 (ckT_ok t _ A D h.2).1)⟩
    · rw [Bool.and_eq_true] at h
      exact ⟨PW.pt (t_and (ckT_ok s _ A D h.1).1 ((ckT_ok t _ A D h.2).2 _ _ _ rfl)), fun _ _ _ _ => t_and (ckT_ok s _ A D h.1).1 ((ckT_ok t _ A D h.2).2 _ _ _ rfl)⟩
    · cases h
  | .or2 s t, X, c, e, A, D, h => by
    simp only [ckT] at h
    split at h
    · rw [Bool.and_eq_true] at h
      exact ⟨PW.pt (t_or (ckT_ok s _ A D h.1).1 (t_or1 (ckT_ok t _ A D h.2).1)), fun _ _ _ _ => t_or (ckT_ok s _ A D h.1).1 (t_or1 (ckT_ok t _ A D h.2).1)⟩
    · rw [Bool.and_eq_true] at h
      exact ⟨PW.pt (t_or (ckT_ok s _ A D h.1).1 ((ckT_ok t _ A D h.2).2 _ _ _ rfl)), fun _ _ _ _ => t_or (ckT_ok s _ A D h.1).1 ((ckT_ok t _ A D h.2).2 _ _ _ rfl)⟩
    · cases h
  | .chain o l ts us, X, c, e, A, D, h => by
    simp only [ckT] at h
    split at h
    · rw [Bool.and_eq_true, Bool.and_eq_true, Bool.and_eq_true, Bool.and_eq_true] at h
      obtain ⟨⟨⟨⟨h1, h2⟩, h3⟩, h4⟩, h5⟩ := h
      exact stw (chain_ok D h1 h2 h3 (ckEs_ok ts _ A D h4) (ckEs_ok us _ A D h5)).2 (fun _ _ _ q => by cases q)
    · cases h
  | .tt t, X, c, e, A, D, h => by
    simp only [ckT] at h
    rw [Bool.and_eq_true] at h
    exact stw (t_tt (ckE_ok t _ A D h.2).2 (plainT_ok h.1)) (fun _ _ _ q => by rw [q] at h; cases h.1)
  | .tn t, X, c, e, A, D, h => by
    simp only [ckT] at h
    split at h
    · exact stw (t_not (ckT_ok t _ A D h).1) (fun _ _ _ q => by cases q)
    · cases h
  | .c _, X, c, e, A, D, h => by simp only [ckT] at h; cases h
  | .nm _, X, c, e, A, D, h => by simp only [ckT] at h; cases h
  | .mv _, X, c, e, A, D, h => by simp only [ckT] at h; cases h
  | .tup _, X, c, e, A, D, h => by simp only [ckT] at h; cases h
  | .tupo _, X, c, e, A, D, h => by simp only [ckT] at h; cases h
  | .lst _, X, c, e, A, D, h => by simp only [ckT] at h; cases h
  | .mth _ _ _, X, c, e, A, D, h => by simp only [ckT] at h; cases h
  | .prj _ _, X, c, e, A, D, h => by simp only [ckT] at h; cases h
  | .sl _ _ _, X, c, e, A, D, h => by simp only [ckT] at h; cases h
  | .ite _ _ _, X, c, e, A, D, h => by simp only [ckT] at h; cases h
  | .call _ _, X, c, e, A, D, h => by simp only [ckT] at h; cases h
  | .lc _ _ _ _ _ _, X, c, e, A, D, h => by simp only [ckT] at h; cases h
  | .callk _ _ _, X, c, e, A, D, h => by simp only [ckT] at h; cases h
  | .app _ _, X, c, e, A, D, h => by simp only [ckT] at h; cases h
  | .ext _ _, X, c, e, A, D, h => by simp only [ckT] at h; cases h
  | .popl _, X, c, e, A, D, h => by simp only [ckT] at h; cases h
theorem ckTs_ok : ∀ (τs : List T) {X : Cx} {c : Cc} (es : List Expr), At X c → Gd X g C k → ckTs g τs c es = true → PTs X es (tBs X.K C τs)
  | [], X, c, es, A, D, h => by
    simp only [ckTs] at h
    cases es with
    | nil => exact ts_nil
    | cons _ _ => cases h
  | t :: ts, X, c, es, A, D, h => by
    simp only [ckTs] at h
    split at h
    · rw [Bool.and_eq_true] at h
      cases ts with
      | nil => exact ts_one (ckT_ok t _ A D h.1).1
      | cons _ _ => cases h.2
    · cases h
end
end
end Qv
end
section
set_option Elab.async false
set_option linter.all false
set_option maxRecDepth 100000
set_option maxHeartbeats 4000000
/-! Q17: statements held against terms. -/
namespace Qv
open PySem PySem.Spec PyProof.Rows L2

def fnk (sc : Scope) : Bool := match sc.kind with | .function => true | _ => false
theorem fnk_ok {sc : Scope} (h : fnk sc = true) : sc.kind = .function := by
  unfold fnk at h
  split at h
  · assumption
  · cases h
def swNames (sc : Scope) (ts : List Expr) : List Str :=
  ts.filterMap fun
    | .Name id pos => if sc.names.lookup id == some .local && pos.line == (ts.head?.map (·.pos.line)).getD 0 then some id else none
    | _ => none
def swM (sc : Scope) (ts vs : List Expr) : Option (Option (List Str)) :=
  if (!(ts.length == 2 || ts.length == 3) || vs.length != ts.length) = true then some none
  else if (vs.any fun | .Starred .. => true | _ => false) = true then some none
  else if ((swNames sc ts).length != ts.length || (swNames sc ts).eraseDups.length != (swNames sc ts).length) = true then some none
  else if vs.all (foldedForSure 8) = true then some none
  else if vs.all (constantsAlone 8) = true then none
  else some (some (swNames sc ts))
theorem bk_ok {env : PySem.Env} (h : env.scope.kind = .function) : env.blockKind = .function := by
  unfold Env.blockKind
  rw [h]
  rfl
theorem swM_ok {env : PySem.Env} {ts vs : List Expr} {k k2 : Nat} {p p2 : Pos} {r : Option (List Str)} (hk : env.scope.kind = .function) (h : swM env.scope ts vs = some r) : swappedStores [.Tuple ts k p] (.Tuple vs k2 p2) env = pure r := by
  unfold swM at h
  unfold swappedStores
  have hb := bk_ok hk
  have he : (env.blockKind != ScopeKind.function) = false := by rw [hb]; rfl
  dsimp only
  rw [he, Bool.or_false]
  split at h
  · rename_i q
    cases h
    exact if_pos q
  · rename_i q
    refine (if_neg q).trans ?_
    split at h
    · rename_i q
      cases h
      exact if_pos q
    · rename_i q
      refine (if_neg q).trans ?_
      split at h
      · rename_i q
        cases h
        exact if_pos q
      · rename_i q
        refine (if_neg q).trans ?_
        split at h
        · rename_i q
          cases h
          exact if_pos q
        · rename_i q
          refine (if_neg q).trans ?_
          split at h
          · cases h
          · rename_i q
            cases h
            exact if_neg q
/-- the plain way of storing -/
def swN (sc : Scope) : Expr → Expr → Bool
  | .Tuple ts _ _, .Tuple vs _ _ => fnk sc && (match swM sc ts vs with | some none => true | _ => false)
  | .List _ _, .Tuple _ _ _ => false
  | _, _ => true
theorem swN_ok {env : PySem.Env} {t v : Expr} (h : swN env.scope t v = true) : swappedStores [t] v env = pure none := by
  unfold swN at h
  split at h
  · rw [Bool.and_eq_true] at h
    obtain ⟨h1, h2⟩ := h
    split at h2
    · rename_i q
      exact swM_ok (fnk_ok h1) q
    · cases h2
  · cases h
  · rename_i n1 n2
    unfold swappedStores
    split
    · rename_i q
      split at q
      · rename_i e1
        injection e1 with e1 _
        exact (n1 _ _ _ _ _ _ e1 rfl).elim
      · rename_i e1
        injection e1 with e1 _
        exact (n2 _ _ _ _ _ e1 rfl).elim
      · cases q
    · rfl
/-- a comprehension's value goes into a name on its line -/
def swLc (sc : Scope) (t : Expr) (scope : Scope) (vline : Nat) : Bool := match t with
  | .Name y py => fnk sc && (sc.names.lookup y == some .local) && py.line == vline && !(scope.names.any fun (n, k) => n == y && (k == .local || k == .cell))
  | _ => false
mutual
def ckTa (g : Pg) (c : Cc) : Ta → Expr → Bool
  | .nm i, e => match e with
    | .Name x _ => ckLoc c i x
    | _ => false
  | .tp ts, e => match e with
    | .Tuple es _ _ => ckTas g c ts es
    | _ => false
  | .st i t, e => match e with
    | .Subscript o x _ => ckN c i o && ckE g t c x && noslice x
    | _ => false
def ckTas (g : Pg) (c : Cc) : List Ta → List Expr → Bool
  | [], es => es.isEmpty
  | t :: ts, es => match es with
    | e :: es => nostar e && ckTa g c t e && ckTas g c ts es
    | [] => false
end
def isComp : Expr → Option Scope
  | .ListComp _ _ s _ => some s
  | _ => none
def okRhs (sc : Scope) (ta : Ta) (t v : Expr) : Bool :=
  nocomp v || (match isComp v with
    | some s => if fnk sc then (match ta with
      | .nm _ => true
      | _ => !(swLc sc t s v.pos.line)) else false
    | none => false)
mutual
def ckS (g : Pg) (c : Cc) (kp : List Nat) : S → Stmt → Bool
  | .asg ta e, st => match st with
    | .Assign [t] v _ => ckTa g c ta t && (taSlots ta).all (fun i => !kp.contains i) && swN c.sc t v && ckE g e c v && okRhs c.sc ta t v
    | _ => false
  | .par is es, st => match st with
    | .Assign [.Tuple [.Name x px, .Name y py] kt pt] (.Tuple [a, b] k2 pt2) _ => (match is with
      | [i, j] => decide (c.N[i]? = some x) && decide (c.N[j]? = some y) && decide (i ≠ j) && decide (c.sc.names.lookup x = some .local) && decide (c.sc.names.lookup y = some .local) && fnk c.sc &&
        decide (swM c.sc [.Name x px, .Name y py] [a, b] = some (some [x, y])) && ckEs g es c [a, b] && !kp.contains i && !kp.contains j
      | _ => false)
    | .Assign [.Tuple [.Name x px, .Name y py, .Name z pz] kt pt] (.Tuple [a, b, d] k2 pt2) _ => (match is with
      | [i, j, l] => decide (c.N[i]? = some x) && decide (c.N[j]? = some y) && decide (c.N[l]? = some z) && decide (i ≠ j) && decide (i ≠ l) && decide (j ≠ l) && decide (c.sc.names.lookup x = some .local) && decide (c.sc.names.lookup y = some .local) &&
        decide (c.sc.names.lookup z = some .local) && fnk c.sc && decide (swM c.sc [.Name x px, .Name y py, .Name z pz] [a, b, d] = some (some [x, y, z])) && ckEs g es c [a, b, d] && !kp.contains i && !kp.contains j && !kp.contains l
      | _ => false)
    | _ => false
  | .ex e, st => match st with
    | .Expr v _ => nocomp v && ckE g e c v
    | _ => false
  | .ite q a b, st => match st with
    | .If x y z _ => ckT g q c x && ckSs g c kp a y && ckSs g c kp b z
    | _ => false
  | .wh q b, st => match st with
    | .While x y [] _ => ckT g q c x && ckSs g c kp b y
    | _ => false
  | .fr t ik ies b, st => match st with
    | .For tg iter y [] _ => ckTg c t tg && (match itA c tg ik iter with | some es => ckEs g ies c es | none => false) && ckSs g c kp b y && noset iter && (tgSlots t).all (fun i => !kp.contains i)
    | _ => false
  | .ret e, st => match st with
    | .Return (some v) _ => ckE g e c v
    | _ => false
  | .pass, st => match st with
    | .Pass _ => true
    | _ => false
  | .brk, st => match st with
    | .Break _ => true
    | _ => false
  | .cont, st => match st with
    | .Continue _ => true
    | _ => false
  | .raise, _ => true
def ckSs (g : Pg) (c : Cc) (kp : List Nat) : List S → List Stmt → Bool
  | [], sts => sts.isEmpty
  | s :: ss, sts => match sts with
    | st :: sts => ckS g c kp s st && ckSs g c kp ss sts
    | [] => false
end
section
variable {C : Cal} {g : Pg} {k : Nat} {X : Cx} {c : Cc} {kp : List Nat}
theorem lcP_ok {ws : List Nat} {tg : Tg} {ik : IK} {ies cs : List T} {t : T} {elt tg' iter : Expr} {ifs : List Expr} {scope : Scope} {ia : Int} {pos : Pos} (A : At X c) (D : Gd X g C k) (h : ckE g (.lc ws tg ik ies cs t) c (.ListComp elt [⟨tg', iter, ifs, ia⟩] scope pos) = true) :
    ia = 0 ∧ LcP X C elt tg' iter ifs scope ws tg ik ies cs t := by
  simp only [ckE] at h
  rw [Bool.and_eq_true, Bool.and_eq_true, Bool.and_eq_true, Bool.and_eq_true, Bool.and_eq_true, Bool.and_eq_true, Bool.and_eq_true, Bool.and_eq_true] at h
  obtain ⟨⟨⟨⟨⟨⟨⟨⟨h0, h1⟩, h2⟩, h3⟩, h4⟩, h5⟩, h6⟩, h7⟩, h8⟩ := h
  refine ⟨of_decide_eq_true h0, ⟨ownOf c.N ws, of_decide_eq_true h1, ?_⟩, ?_, fun s H B cl fp => ?_, fun s H B cl fp => ?_, fun s H B cl fp => ?_, h7, fun i hi => ?_⟩
  · rw [A.N, A.sc]
    exact blkOk_by h2
  · split at h4
    · rename_i es he
      exact itA_ok A D he (ckEs_ok ies _ A D h4)
    · cases h4
  · exact ckTg_ok (A.blk s H scope cl B fp) (D.blk s H scope _ fp) tg _ h3
  · exact ckTs_ok cs _ (A.blk s H scope cl B fp) (D.blk s H scope _ fp) h5
  · exact (ckE_ok t _ (A.blk s H scope cl B fp) (D.blk s H scope _ fp) h6).1
  · have := List.all_eq_true.mp h8 i hi
    exact List.contains_iff_mem.mp this
mutual
theorem ckTa_ok (A : At X c) (D : Gd X g C k) : ∀ (t : Ta) (e : Expr), ckTa g c t e = true → PG X e (gA X.K C t)
  | .nm i, e, h => by
    simp only [ckTa] at h
    split at h
    · obtain ⟨h1, h2, h3⟩ := ckLoc_ok A h
      exact a_name D.nd h1 h2 h3
    · cases h
  | .tp ts, e, h => by
    simp only [ckTa] at h
    split at h
    · obtain ⟨q1, q2, q3⟩ := ckTas_ok A D ts _ h
      obtain ⟨l1, l2⟩ := assign_len (env := X.env) q2
      exact a_tup D.calm q1 (by rw [l1, q3]) l2
    · cases h
  | .st i t, e, h => by
    simp only [ckTa] at h
    split at h
    · rw [Bool.and_eq_true, Bool.and_eq_true] at h
      exact a_st (ckN_ok A h.1.1) (ckE_ok t _ A D h.1.2).2 (sub_ok h.2)
    · cases h
theorem ckTas_ok (A : At X c) (D : Gd X g C k) : ∀ (t : List Ta) (e : List Expr), ckTas g c t e = true → PGs X e (gAs X.K C t) ∧ e.all nostar = true ∧ e.length = t.length
  | [], e, h => by
    simp only [ckTas] at h
    cases e with
    | nil => exact ⟨a_nil, rfl, rfl⟩
    | cons _ _ => cases h
  | t :: ts, e, h => by
    simp only [ckTas] at h
    split at h
    · simp only [Bool.and_eq_true] at h
      obtain ⟨⟨h1, h2⟩, h3⟩ := h
      obtain ⟨q1, q2, q3⟩ := ckTas_ok A D ts _ h3
      refine ⟨a_cons (ckTa_ok A D t _ h2) q1 (by rw [assign1 h1]; rfl), by rw [List.all_cons, h1, q2]; rfl, by rw [List.length_cons, List.length_cons, q3]⟩
    · cases h
end
theorem ckTa_star {ta : Ta} {t : Expr} (h : ckTa g c ta t = true) : nostar t = true := by
  cases ta <;> cases t <;> first | rfl | (simp only [ckTa] at h; cases h)
theorem kp_ok {is : List Nat} (h : is.all (fun i => !kp.contains i) = true) : ∀ i ∈ is, i ∉ kp := fun i hi m => by
  have q := List.all_eq_true.mp h i hi
  rw [List.contains_iff_mem.mpr m] at q
  cases q
theorem kp1 {i : Nat} (h : (!kp.contains i) = true) : i ∉ kp := fun m => by
  rw [List.contains_iff_mem.mpr m] at h
  cases h
theorem asg_ok (A : At X c) (D : Gd X g C k) {ta : Ta} {e : T} {t v : Expr} {pos : Pos} (h1 : ckTa g c ta t = true) (h2 : (taSlots ta).all (fun i => !kp.contains i) = true) (h3 : swN c.sc t v = true) (h4 : ckE g e c v = true) (h5 : okRhs c.sc ta t v = true) :
    SS X C kp (.Assign [t] v pos) (.asg ta e) := by
  have hN : (assignEach [t] X.env).map (·.2) = [assign t X.env] := by rw [assign1 (ckTa_star h1)]; rfl
  have hw : swappedStores [t] v X.env = pure none := swN_ok (by rw [A.sc]; exact h3)
  have plain : swapsWith v (some t) pos.line X.env = pure false → SS X C kp (.Assign [t] v pos) (.asg ta e) := fun hs =>
    ss_asg (ckE_ok e _ A D h4).1 (ckTa_ok A D ta _ h1) hs hw hN (kp_ok h2)
  unfold okRhs at h5
  rw [Bool.or_eq_true] at h5
  rcases h5 with h5 | h5
  · exact plain (swaps_ok h5)
  · split at h5
    · rename_i s hs
      split at h5
      · rename_i hf
        have hk := fnk_ok hf
        have hb : X.env.blockKind = .function := bk_ok (by rw [A.sc]; exact hk)
        cases v with
        | ListComp elt gens s2 p2 =>
          cases hs
          have val : ∀ y py, swapsWith (.ListComp elt gens s p2) (some (.Name y py)) pos.line X.env = pure (swLc c.sc (.Name y py) s p2.line) := fun y py => by
            unfold swapsWith swLc
            dsimp only
            rw [hb, hf]
            show pure _ = _
            rw [show X.env.kindOf y = c.sc.names.lookup y by rw [← A.sc]; rfl]
            rfl
          have other : (∀ y py, t ≠ .Name y py) → swapsWith (.ListComp elt gens s p2) (some t) pos.line X.env = pure false := fun n => by
            unfold swapsWith
            cases t <;> first | rfl | exact absurd rfl (n _ _)
          cases ta with
          | nm i =>
            cases t with
            | Name y py =>
              cases q : swLc c.sc (.Name y py) s p2.line with
              | false => exact plain (by rw [val, q])
              | true =>
                have hsw := val y py
                rw [q] at hsw
                obtain ⟨l1, l2, l3⟩ := ckLoc_ok A (show ckLoc c i y = true by simpa only [ckTa] using h1)
                have hl : X.env.scope.names.lookup y = some .local := by
                  unfold swLc at q
                  simp only [Bool.and_eq_true] at q
                  rw [A.sc]
                  exact eq_of_beq q.1.1.2
                cases e with
                | lc ws tg ik ies cs τ =>
                  match gens, h4 with
                  | [⟨tg', iter, ifs, ia⟩], h4 =>
                    obtain ⟨rfl, ⟨⟨own, rfl, ok⟩, it, tgp, ip, ep, st, sl⟩⟩ := lcP_ok A D h4
                    exact ss_setLc D.calm D.nd l1 hl hsw it ok tgp ip ep (fold_ok st) sl (kp_ok h2 i (by simp only [taSlots]; exact List.mem_cons_self))
                  | [], h4 => simp only [ckE] at h4; cases h4
                  | ⟨_, _, _, _⟩ :: _ :: _, h4 => simp only [ckE] at h4; cases h4
                | c d => simp only [ckE] at h4; cases h4
                | nm j => simp only [ckE] at h4; cases h4
                | mv j => simp only [ckE] at h4; cases h4
                | op o ts => simp only [ckE, ckOp] at h4; cases h4
                | _ => simp only [ckE] at h4; cases h4
            | _ => exact plain (other fun y py e => by cases e)
          | tp ts => 
            cases t with
            | Name y py => simp only [ckTa] at h1; cases h1
            | _ => exact plain (other fun y py e => by cases e)
          | st i j =>
            cases t with
            | Name y py => simp only [ckTa] at h1; cases h1
            | _ => exact plain (other fun y py e => by cases e)
        | _ => cases hs
      · cases h5
    · cases h5
mutual
theorem ckS_ok (A : At X c) (D : Gd X g C k) : ∀ (s : S) (st : Stmt), ckS g c kp s st = true → SS X C kp st s
  | .asg ta e, st, h => by
    simp only [ckS] at h
    split at h
    · rw [Bool.and_eq_true, Bool.and_eq_true, Bool.and_eq_true, Bool.and_eq_true] at h
      obtain ⟨⟨⟨⟨h1, h2⟩, h3⟩, h4⟩, h5⟩ := h
      exact asg_ok A D h1 h2 h3 h4 h5
    · cases h
  | .par is es, st, h => by
    simp only [ckS] at h
    split at h
    · split at h
      · simp only [Bool.and_eq_true, decide_eq_true_eq] at h
        obtain ⟨⟨⟨⟨⟨⟨⟨⟨⟨h1, h2⟩, h3⟩, h4⟩, h5⟩, h6⟩, h7⟩, h8⟩, h9⟩, h10⟩ := h
        have q := ckEs_ok es _ A D h8
        obtain ⟨τ, τ', rfl, _⟩ := q.two
        have ss := q.ss
        exact ss_par2 D.calm D.nd (by rw [A.N]; exact h1) (by rw [A.N]; exact h2) h3 (by rw [A.sc]; exact h4) (by rw [A.sc]; exact h5) ss (swM_ok (by rw [A.sc]; exact fnk_ok h6) (by rw [A.sc]; exact h7)) rfl ⟨kp1 h9, kp1 h10⟩
      · cases h
    · split at h
      · simp only [Bool.and_eq_true, decide_eq_true_eq] at h
        obtain ⟨⟨⟨⟨⟨⟨⟨⟨⟨⟨⟨⟨⟨⟨h1, h2⟩, h3⟩, h4⟩, h5⟩, h6⟩, h7⟩, h8⟩, h9⟩, h10⟩, h11⟩, h12⟩, h13⟩, h14⟩, h15⟩ := h
        have q := ckEs_ok es _ A D h12
        obtain ⟨τ, r, rfl, _, _, _, q2⟩ := id q
        obtain ⟨τ', τ2, rfl, _⟩ := q2.two
        have ss := q.ss
        exact ss_par3 D.calm D.nd (by rw [A.N]; exact h1) (by rw [A.N]; exact h2) (by rw [A.N]; exact h3) h4 h5 h6 (by rw [A.sc]; exact h7) (by rw [A.sc]; exact h8) (by rw [A.sc]; exact h9) ss (swM_ok (by rw [A.sc]; exact fnk_ok h10) (by rw [A.sc]; exact h11)) rfl ⟨kp1 h13, kp1 h14, kp1 h15⟩
      · cases h
    · cases h
  | .ex e, st, h => by
    simp only [ckS] at h
    split at h
    · rw [Bool.and_eq_true] at h
      exact ss_ex (ckE_ok e _ A D h.2).1 (swaps_ok h.1)
    · cases h
  | .ite q a b, st, h => by
    simp only [ckS] at h
    split at h
    · rw [Bool.and_eq_true, Bool.and_eq_true] at h
      exact ss_if (ckT_ok q _ A D h.1.1).1 (ckSs_ok A D a _ h.1.2) (ckSs_ok A D b _ h.2)
    · cases h
  | .wh q b, st, h => by
    simp only [ckS] at h
    split at h
    · rw [Bool.and_eq_true] at h
      exact ss_while D.xe (ckT_ok q _ A D h.1).1 (ckSs_ok A D b _ h.2)
    · cases h
  | .fr t ik ies b, st, h => by
    simp only [ckS] at h
    split at h
    · rw [Bool.and_eq_true, Bool.and_eq_true, Bool.and_eq_true, Bool.and_eq_true] at h
      obtain ⟨⟨⟨⟨h1, h2⟩, h3⟩, h4⟩, h5⟩ := h
      refine ss_for D.xe D.calm ?_ (ckTg_ok A D t _ h1) (ckSs_ok A D b _ h3) (fold_ok h4) (kp_ok h5)
      split at h2
      · rename_i es he
        exact itA_ok A D he (ckEs_ok ies _ A D h2)
      · cases h2
    · cases h
  | .ret e, st, h => by
    simp only [ckS] at h
    split at h
    · exact ss_ret (ckE_ok e _ A D h).1
    · cases h
  | .pass, st, h => by
    simp only [ckS] at h
    split at h
    · exact ss_pass
    · cases h
  | .brk, st, h => by
    simp only [ckS] at h
    split at h
    · exact ss_brk
    · cases h
  | .cont, st, h => by
    simp only [ckS] at h
    split at h
    · exact ss_cont
    · cases h
  | .raise, st, h => ss_raise
theorem ckSs_ok (A : At X c) (D : Gd X g C k) : ∀ (s : List S) (st : List Stmt), ckSs g c kp s st = true → SB X C kp st s
  | [], st, h => by
    simp only [ckSs] at h
    cases st with
    | nil => exact b_nil
    | cons _ _ => cases h
  | s :: ss, st, h => by
    simp only [ckSs] at h
    split at h
    · rw [Bool.and_eq_true] at h
      exact b_cons (ckS_ok A D s _ h.1) (ckSs_ok A D ss _ h.2)
    · cases h
end
end
end Qv
end
section
set_option Elab.async false
set_option linter.all false
set_option maxRecDepth 100000
set_option maxHeartbeats 4000000
/-! Q18: a def's body keeps the def's promise. -/
namespace Qv
open PySem PySem.Spec PyProof.Rows L2

theorem heldAll_len : ∀ {os : List O} {i : Nat} {as : List Nat} {ρ : Env} {os2 : List O}, heldAll i as os ρ = some os2 → os2.length = os.length
  | [], i, as, ρ, os2, h => by
    simp only [heldAll] at h
    cases h
    rfl
  | o :: os, i, as, ρ, os2, h => by
    simp only [heldAll] at h
    split at h
    · cases h
    · rename_i r hr
      have q := heldAll_len hr
      split at h
      · cases h
        rw [List.length_cons, List.length_cons, q]
      · split at h
        · cases h
          rw [List.length_cons, List.length_cons, q]
        · cases h
theorem runF_fair {P : List Fd} : ∀ k, Fair (runF P k)
  | 0 => fun f os o os2 h => by simp only [runF] at h; cases h
  | k + 1 => fun f os o os2 h => by
    simp only [runF] at h
    split at h
    · cases h
    · split at h
      · split at h
        · rw [Option.map_eq_some_iff] at h
          obtain ⟨r, h1, h2⟩ := h
          cases h2
          exact heldAll_len h1
        · rw [Option.map_eq_some_iff] at h
          obtain ⟨r, h1, h2⟩ := h
          cases h2
          exact heldAll_len h1
        · cases h
      · cases h

section
variable {K : Frag} {H : Hp} {L M T : List En} {ρ : Env} {σ : L2.St}
/-- what is kept of the parameters that change -/
def aEns : Nat → List Nat → List O → List V → List En
  | i, as, o :: os, v :: vs => (if as.contains i then [(some (.sh o.d), v)] else []) ++ aEns (i + 1) as os vs
  | _, _, _, _ => []
theorem live_nones : ∀ n : Nat, live (List.replicate n none) (List.replicate n none) = []
  | 0 => rfl
  | n + 1 => live_nones n
theorem cov_nones : ∀ n : Nat, Cov (List.replicate n none) (List.replicate n none)
  | 0 => trivial
  | n + 1 => cov_nones n
theorem start_run {n : Nat} {as : List Nat} : ∀ {os : List O} {vs : List V} {i : Nat} {L : List En}, os.length = vs.length → Wd K H (ens os vs ++ L) →
    Cov (startAll i as os ++ List.replicate n none) (vs.map some ++ List.replicate n none) ∧ Wd K H (aEns i as os vs ++ (live (startAll i as os ++ List.replicate n none) (vs.map some ++ List.replicate n none) ++ L))
  | [], [], i, L, _, w => by
    refine ⟨cov_nones n, ?_⟩
    show Wd K H ([] ++ (live (List.replicate n none) (List.replicate n none) ++ L))
    rw [live_nones]
    exact w
  | o :: os, v :: vs, i, L, l, w => by
    have w : Wd K H ((some o, v) :: (ens os vs ++ L)) := w
    have l : os.length = vs.length := by simpa using l
    by_cases q : as.contains i = true
    · have w2 : Wd K H (ens os vs ++ ((some (.sh o.d), v) :: (some (.sh o.d), v) :: L)) := by
        refine w.fz.dup.perm ?_
        exact (List.Perm.cons _ List.perm_middle.symm).trans List.perm_middle.symm
      obtain ⟨c, w3⟩ := start_run (n := n) (as := as) (i := i + 1) l w2
      simp only [startAll, aEns, q, if_true]
      refine ⟨c, w3.perm ?_⟩
      show (aEns (i + 1) as os vs ++ (live (startAll (i + 1) as os ++ List.replicate n none) (vs.map some ++ List.replicate n none) ++ ((some (.sh o.d), v) :: (some (.sh o.d), v) :: L))).Perm
        ((some (.sh o.d), v) :: (aEns (i + 1) as os vs ++ ((some (.sh o.d), v) :: (live (startAll (i + 1) as os ++ List.replicate n none) (vs.map some ++ List.replicate n none) ++ L))))
      generalize aEns (i + 1) as os vs = X1
      generalize live (startAll (i + 1) as os ++ List.replicate n none) (vs.map some ++ List.replicate n none) = X2
      have p1 : (X2 ++ ((some (O.sh o.d), v) :: (some (O.sh o.d), v) :: L)).Perm ((some (O.sh o.d), v) :: (some (O.sh o.d), v) :: (X2 ++ L)) := List.perm_middle.trans (List.Perm.cons _ List.perm_middle)
      exact (p1.append_left X1).trans List.perm_middle
    · have w2 : Wd K H (ens os vs ++ ((some o, v) :: L)) := w.perm List.perm_middle.symm
      obtain ⟨c, w3⟩ := start_run (n := n) (as := as) (i := i + 1) l w2
      have q : as.contains i = false := by simpa using q
      simp only [startAll, aEns, q, Bool.false_eq_true, if_false, List.nil_append]
      refine ⟨c, w3.perm ?_⟩
      refine List.Perm.append_left _ ?_
      exact List.perm_middle
  | [], _ :: _, _, _, l, _ => by cases l
  | _ :: _, [], _, _, l, _ => by cases l
theorem heldAll_set {as : List Nat} : ∀ {os : List O} {i j : Nat} {ρ : Env}, j < i → heldAll i as os (ρ.set j none) = heldAll i as os ρ
  | [], i, j, ρ, _ => rfl
  | o :: os, i, j, ρ, h => by
    simp only [heldAll]
    rw [heldAll_set (by omega), List.getElem?_set_ne (by omega)]
theorem end_run {as : List Nat} : ∀ {os : List O} {vs : List V} {i : Nat} {ρ : Env} {T : List En} {os2 : List O}, os.length = vs.length → heldAll i as os ρ = some os2 → (∀ j v, vs[j]? = some v → as.contains (i + j) = false → σ[i + j]? = some (some v)) →
    Ws K H (aEns i as os vs ++ T) ρ σ → ∃ ρ', Ws K H (ens os2 vs ++ T) ρ' σ
  | [], [], i, ρ, T, os2, _, h, _, w => by
    simp only [heldAll] at h
    cases h
    exact ⟨ρ, w⟩
  | o :: os, v :: vs, i, ρ, T, os2, l, h, hs, w => by
    have l : os.length = vs.length := by simpa using l
    have hs2 : ∀ j u, vs[j]? = some u → as.contains (i + 1 + j) = false → σ[i + 1 + j]? = some (some u) := fun j u e c => by
      have e1 : i + 1 + j = i + (j + 1) := by omega
      rw [e1] at c ⊢
      exact hs (j + 1) u (by simpa using e) c
    simp only [heldAll] at h
    split at h
    · cases h
    · rename_i r hr
      split at h
      · rename_i q
        cases h
        simp only [aEns, q, if_true, List.cons_append, List.nil_append] at w
        have w2 : Ws K H (aEns (i + 1) as os vs ++ ((some (.sh o.d), v) :: T)) ρ σ := w.mono List.perm_middle.symm
        obtain ⟨ρ', w3⟩ := end_run l hr hs2 w2
        exact ⟨ρ', w3.mono List.perm_middle⟩
      · rename_i q
        have q : as.contains i = false := by simpa using q
        split at h
        · rename_i o2 h2
          cases h
          simp only [aEns, q, Bool.false_eq_true, if_false, List.nil_append] at w
          obtain ⟨u, hu, w2⟩ := w.take h2
          have hv := hs 0 v rfl q
          rw [Nat.add_zero, hu] at hv
          cases hv
          have w3 : Ws K H (aEns (i + 1) as os vs ++ ((some o2, v) :: T)) (ρ.set i none) σ := w2.mono List.perm_middle.symm
          obtain ⟨ρ', w4⟩ := end_run l (by rw [heldAll_set (Nat.lt_succ_self i)]; exact hr) hs2 w3
          exact ⟨ρ', w4.mono List.perm_middle⟩
        · cases h
  | [], _ :: _, _, _, _, _, l, _, _, _ => by cases l
  | _ :: _, [], _, _, _, _, l, _, _, _ => by cases l
theorem Ws.unlive (h : Ws K H M ρ σ) : Wd K H M := by
  have q := h.2.perm (List.perm_append_comm)
  exact Wd.dropL _ q
end

/-- the context of a body in which nothing is raised -/
def cxF (P : Program) (w : World) (K : Frag) (mg : Str → Option Value) (base : Heap) (N : List Str) (qual : Str) (scope : Scope) (f : Addr) (cd : Value) (A : Around) (outer : List PySem.Env) (s : Shared) (H : Hp) : Cx :=
  { cxOf (fun _ _ _ _ _ _ => False) P w K mg base N qual scope f cd A outer s H (fun _ _ _ => False) with xe := fun _ _ => False }
def kpOf (fd : Fd) : List Nat := (List.range fd.np).filter fun i => !fd.asgd.contains i
theorem startSt {N : List Str} {vs : List V} {n : Nat} (h : n = N.length - vs.length) : start N vs = vs.map some ++ List.replicate n none := by
  rw [h]
  rfl
theorem fnG_of {P : Program} {w : World} {K : Frag} {mg : Str → Option Value} {base : Heap} {k j : Nat} {f : Addr} {name qual : Str} {params : Arguments} {body : List Stmt} {scope : Scope} {dV kV doc pm cdv ct oc : Value} {an od : Option Addr}
    {osl : Array (Option Value)} {N ps : List Str} {pgm : List Fd} {fd : Fd} {g : Pg} (lk : K.lookup f = some ⟨oc, od, .func (PySem.W.fnOf name qual params body scope dV kV doc pm an cdv ct), osl⟩) (hcd : PySem.W.codeIn K cdv qual = true) (S : FnScope N ps scope)
    (hj : pgm[j]? = some fd) (hnp : fd.np = ps.length) (hns : fd.ns = N.length) (hck : ckSs g ⟨N, scope, fun _ => true⟩ (kpOf fd) fd.body body = true)
    (hgd : ∀ (A : Around) (outer : List PySem.Env) (s : Shared) (H : Hp), Room k (A.deeper (envOfC qual scope s.heap.objs.size f cdv)) → A.guards = some [] → Gd (cxF P w K mg base N qual scope f cdv A outer s H) g (runF pgm k) k) :
    FnG P w K mg base (k + 1) f (PySem.W.fnOf name qual params body scope dV kV doc pm an cdv ct) ps (spF K (runF pgm (k + 1) j)) := by
  have len : ∀ vs H Q E, spF K (runF pgm (k + 1) j) vs H Q E → vs.length = ps.length := fun vs H Q E h => by
    obtain ⟨os, o, os2, L, h1, h2, _, _⟩ := h
    simp only [runF, hj] at h1
    split at h1
    · rename_i q
      rw [← h2, q, hnp]
    · cases h1
  refine ⟨len, fun A outer s H args us vs Q E hr hgu e0 hb r hsp => ?_⟩
  have hl := len _ _ _ _ hsp
  obtain ⟨os, o, os2, L, h1, h2, wd, z⟩ := hsp
  simp only [runF, hj] at h1
  split at h1
  case isFalse => cases h1
  rename_i hnl
  have KX : K.In s.heap := e0.mod.kin.keeps fun b u e => (e0.bs b u e).1
  have lim : s.heap.NoLimit := e0.mod.nolimit.keeps fun b u e => (e0.bs b u e).1
  have hkind : ∀ y ∈ ps.zip us, scope.names.lookup y.1 = some .local ∨ (scope.names.lookup y.1 = some .cell ∧ ((cellsFrom (s.heap.objs.size + 1) scope.names []).lookup y.1).isSome = true) := fun ⟨n, u⟩ hy => by
    cases S.par n (List.of_mem_zip hy).1 with
    | inl q => exact .inl q
    | inr q => exact .inr ⟨q, PySem.W.cellsFrom_some _ _ _ (.inl q)⟩
  have pend := hb (model P w) A.in1
  refine codeAny_call_function (hr.depth) (KX _ _ lk) rfl (S.co) S.gen rfl (PySem.W.codeRec_of KX hcd) (pend _ _ ?_)
  refine wpAny_newFunctionEnv_cells (S.kind) hkind fun env he s1 x => ?_
  subst he
  refine ⟨lim.keeps x.toInCall.keep, codeAny_func ?_⟩
  have I0 := inv_start (CX := fun _ _ _ _ _ _ => False) (P := P) (w := w) (K := K) (mg := mg) (base := base) (qual := qual) (f := f) (cd := cdv) (outer := outer) (E := fun _ _ _ => False) S hr.hd e0 hl r x
  have I : Inv (cxF P w K mg base N qual scope f cdv A outer s H) [] (start N vs) H s1 :=
    ⟨⟨I0.ok.1, I0.ok.2, I0.ok.3, I0.ok.4, I0.ok.5, I0.ok.6, I0.ok.7, I0.ok.8, I0.ok.9, I0.ok.10, I0.ok.11, I0.ok.12, I0.ok.13, I0.ok.14, I0.ok.15, I0.ok.16, I0.ok.17, I0.ok.18⟩, I0.2, I0.3, I0.4, I0.5, I0.6, I0.7, I0.8, I0.9, I0.10, I0.11⟩
  have D := hgd A outer s H (hr.deeper _) hgu
  have ht : SB (cxF P w K mg base N qual scope f cdv A outer s H) (runF pgm k) (kpOf fd) body fd.body := ckSs_ok ⟨rfl, rfl, rfl⟩ D fd.body body hck
  have hnn : fd.ns - fd.np = N.length - vs.length := by rw [hns, hnp, hl]
  have st := startSt (N := N) (vs := vs) hnn
  obtain ⟨cov, w0⟩ := start_run (n := fd.ns - fd.np) (as := fd.asgd) (i := 0) h2 wd
  have w1 : Ws K H (aEns 0 fd.asgd os vs ++ L) (startAll 0 fd.asgd os ++ List.replicate (fd.ns - fd.np) none) (start N vs) := by
    rw [st]
    refine ⟨cov, w0.perm ?_⟩
    rw [List.append_assoc]
    exact List.perm_append_comm.append_left _
  have atKp : ∀ σ' : L2.St, Kp (kpOf fd) (start N vs) σ' → ∀ j v, vs[j]? = some v → fd.asgd.contains (0 + j) = false → σ'[0 + j]? = some (some v) := fun σ' kk j v e c => by
    rw [Nat.zero_add] at c ⊢
    have hjl : j < vs.length := by
      rcases Nat.lt_or_ge j vs.length with q | q
      · exact q
      · rw [List.getElem?_eq_none q] at e
        cases e
    have hm : j ∈ kpOf fd := by
      unfold kpOf
      rw [List.mem_filter, List.mem_range, c, hnp, ← hl]
      exact ⟨hjl, rfl⟩
    rw [kk.2 j hm, st, List.getElem?_append_left (by simpa using hjl), List.getElem?_map, e]
    rfl
  have fin : ∀ {σ' : L2.St} {H' : Hp} {v : V} {u : Value} {s' : Shared}, Inv (cxF P w K mg base N qual scope f cdv A outer s H) [] σ' H' s' → RelV v u → Q v H' → CE outer P w H s Q u s' :=
    fun {σ' H' v u s'} J rv q => ⟨v, H', J.os, J.bare, J.base, J.hok, rv, q⟩
  have hq : tSB K (runF pgm k) (kpOf fd) fd.body { nx := fun _ H' => Q .non H', rt := Q } (start N vs) H := by
    split at h1
    · rename_i o1 ρ1 hev
      rw [Option.map_eq_some_iff] at h1
      obtain ⟨os3, h3, h4⟩ := h1
      cases h4
      refine ⟨_, _, _, hev, w1, fun σ' v H' kk w2 => z v H' ?_⟩
      have w3 : Ws K H' (aEns 0 fd.asgd os vs ++ ((some o, v) :: L)) ρ1 σ' := w2.mono List.perm_middle.symm
      obtain ⟨ρ', w4⟩ := end_run h2 h3 (atKp σ' kk) w3
      exact w4.unlive
    · rename_i ρ1 hev
      rw [Option.map_eq_some_iff] at h1
      obtain ⟨os3, h3, h4⟩ := h1
      cases h4
      refine ⟨_, _, _, hev, w1, fun σ' H' kk w2 => z .non H' ?_⟩
      have w2' := w2.flat (d := .none) (v := .non) fun _ => by simp only [Sh]
      have w3 : Ws K H' (aEns 0 fd.asgd os vs ++ ((some (.sh .none), .non) :: L)) ρ1 σ' := w2'.mono List.perm_middle.symm
      obtain ⟨ρ', w4⟩ := end_run h2 h3 (atKp σ' kk) w3
      exact w4.unlive
    · cases h1
  refine wpAny_mono (ht.run [] s1 (start N vs) H _ I hq) (fun fl s' hs => ?_) fun e s' hs => hs.elim
  cases fl with
  | ret u =>
    obtain ⟨v, σ', H', J, rv, q⟩ := hs
    exact fin J rv q
  | next =>
    obtain ⟨σ', H', J, q⟩ := hs
    exact fin (v := V.non) J rfl q
  | brk =>
    obtain ⟨_, _, _, q⟩ := hs
    exact q.elim
  | cont =>
    obtain ⟨_, _, _, q⟩ := hs
    exact q.elim
end Qv
end
section
set_option Elab.async false
set_option linter.all false
set_option maxRecDepth 100000
set_option maxHeartbeats 4000000
/-! Q19: all defs of a text. -/
namespace Qv
open PySem PySem.Spec PyProof.Rows L2

/-- what is known of the texts' defs, and of what the top bound -/
structure Ax (K : Frag) (mg : Str → Option Value) (g : Pg) (pgm : List Fd) (fA : Nat → Addr) (fD : Nat → FuncData) : Prop where
  blt : ∀ x ∈ bnames, mg x = none
  cs : ∀ x d, (x, d) ∈ g.cs → ∃ u v, mg x = some u ∧ RelV v u ∧ ∀ G, Sh K G d v
  fs : ∀ j x ps, g.fs[j]? = some (x, ps) → mg x = some (.ref (fA j)) ∧ PySem.W.keepIn K (.ref (fA j)) = true ∧ (∀ (s : Shared) (us : List Value), us.length = ps.length → BindsTo s (fD j) ⟨us, []⟩ (ps.zip us)) ∧
    (∀ ks n pm, (j, ks, n, pm) ∈ g.kw → KwB (fD j) ps ks n pm) ∧
    ∃ (name qual : Str) (params : Arguments) (body : List Stmt) (scope : Scope) (dV kV doc pm cdv ct oc : Value) (an od : Option Addr) (osl : Array (Option Value)) (N : List Str) (fd : Fd),
      fD j = PySem.W.fnOf name qual params body scope dV kV doc pm an cdv ct ∧ K.lookup (fA j) = some ⟨oc, od, .func (fD j), osl⟩ ∧ PySem.W.codeIn K cdv qual = true ∧ FnScope N ps scope ∧ pgm[j]? = some fd ∧ fd.np = ps.length ∧ fd.ns = N.length ∧
      ckSs g ⟨N, scope, fun _ => true⟩ (kpOf fd) fd.body body = true
theorem spF_none {K : Frag} {pgm : List Fd} {j : Nat} {vs : List V} {H : Hp} {Q : VK} {E : XK} (h : spF K (runF pgm 0 j) vs H Q E) : False := by
  obtain ⟨os, o, os2, L, h1, _⟩ := h
  simp only [runF] at h1
  cases h1
theorem all_fn {P : Program} {w : World} {K : Frag} {mg : Str → Option Value} {base : Heap} {g : Pg} {pgm : List Fd} {fA : Nat → Addr} {fD : Nat → FuncData} (ax : Ax K mg g pgm fA fD) :
    ∀ (k j : Nat) (x : Str) (ps : List Str), g.fs[j]? = some (x, ps) → FnG P w K mg base k (fA j) (fD j) ps (spF K (runF pgm k j))
  | 0, j, x, ps, _ => ⟨fun vs H Q E h => (spF_none h).elim, fun A outer s H args us vs Q E _ _ _ _ _ h => (spF_none h).elim⟩
  | k + 1, j, x, ps, hj => by
    obtain ⟨m1, m2, m3, m4, name, qual, params, body, scope, dV, kV, doc, pm, cdv, ct, oc, an, od, osl, N, fd, e, lk, hcd, S, hp, hnp, hns, hck⟩ := ax.fs j x ps hj
    rw [e] at lk ⊢
    refine fnG_of lk hcd S hp hnp hns hck fun A outer s H hr hg => ⟨rfl, S.nd, hr, hg, hr.units, rfl, ax.blt, ax.cs, fun i y qs hi => ?_, runF_fair k⟩
    obtain ⟨n1, n2, n3, n4, _⟩ := ax.fs i y qs hi
    exact ⟨fA i, fD i, n1, n2, n3, n4, all_fn ax k i y qs hi⟩
/-- what was frozen stays so -/
theorem FnG.frz {P : Program} {w : World} {K : Frag} {mg : Str → Option Value} {base : Heap} {k : Nat} {f : Addr} {fd : FuncData} {ps : List Str} {sp : Sp} (F : FnG P w K mg base k f fd ps sp) :
    FnG P w K mg base k f fd ps (fun vs H Q E => sp vs H (fun v H' => (∀ b o u, H b = some (.frz o u) → H' b = some (.frz o u)) → Q v H') E) := by
  refine ⟨fun vs H Q E h => F.len _ _ _ _ h, fun A outer s H args us vs Q E hr hg e0 hb r h => ?_⟩
  refine codeAny_mono (F.run A outer s H args us vs _ E hr hg e0 hb r h) fun r s' hq => ?_
  cases r with
  | error e => exact hq
  | ok fl =>
    cases fl with
    | ret u =>
      obtain ⟨v, H', c1, c2, c3, c4, c5, q⟩ := hq
      exact ⟨v, H', c1, c2, c3, c4, c5, q fun b o u z => c3.frzs b o u z⟩
    | next => exact hq
    | brk => exact hq
    | cont => exact hq
theorem FnG.ofOk {P : Program} {w : World} {K : Frag} {mg : Str → Option Value} {base : Heap} {k : Nat} {f : Addr} {fd : FuncData} {ps : List Str} {sp : Sp} (F : FnOk P w K mg base CX0 k f fd ps sp) : FnG P w K mg base k f fd ps sp :=
  ⟨F.len, fun A outer s H args us vs Q E hr _ e0 hb r h => F.run A outer s H args us vs Q E hr e0 hb r h⟩
end Qv
end
section
set_option Elab.async false
set_option linter.all false
set_option maxRecDepth 100000
set_option maxHeartbeats 4000000
/-! Q20: a body by hand; the end of a law's row. -/
namespace Qv
open PySem PySem.Spec PyProof.Rows L2

/-- a def whose body is walked by hand -/
theorem fnG_body {P : Program} {w : World} {K : Frag} {mg : Str → Option Value} {base : Heap} {k : Nat} {f : Addr} {name qual : Str} {params : Arguments} {body : List Stmt} {scope : Scope} {dV kV doc pm cdv ct oc : Value} {an od : Option Addr}
    {osl : Array (Option Value)} {N ps : List Str} {sp : Sp} (lk : K.lookup f = some ⟨oc, od, .func (PySem.W.fnOf name qual params body scope dV kV doc pm an cdv ct), osl⟩) (hcd : PySem.W.codeIn K cdv qual = true) (S : FnScope N ps scope)
    (len : ∀ vs H Q E, sp vs H Q E → vs.length = ps.length)
    (hb : ∀ (A : Around) (outer : List PySem.Env) (s : Shared) (H : Hp) (vs : List V) (Q : VK) (E : XK), Room k (A.deeper (envOfC qual scope s.heap.objs.size f cdv)) → A.guards = some [] → sp vs H Q E →
      ∃ t, PSs (cxF P w K mg base N qual scope f cdv A outer s H) body t ∧ t { nx := fun _ H' => Q .non H', rt := Q } (start N vs) H) :
    FnG P w K mg base (k + 1) f (PySem.W.fnOf name qual params body scope dV kV doc pm an cdv ct) ps sp := by
  refine ⟨len, fun A outer s H args us vs Q E hr hgu e0 bd r hsp => ?_⟩
  have hl := len _ _ _ _ hsp
  have kIn : K.In s.heap := e0.mod.kin.keeps fun b u e => (e0.bs b u e).1
  have free : s.heap.NoLimit := e0.mod.nolimit.keeps fun b u e => (e0.bs b u e).1
  have kinds : ∀ y ∈ ps.zip us, scope.names.lookup y.1 = some .local ∨ (scope.names.lookup y.1 = some .cell ∧ ((cellsFrom (s.heap.objs.size + 1) scope.names []).lookup y.1).isSome = true) := fun ⟨n, u⟩ hy =>
    (S.par n (List.of_mem_zip hy).1).imp id fun q => ⟨q, PySem.W.cellsFrom_some _ _ _ (.inl q)⟩
  have pend := bd (model P w) A.in1
  refine codeAny_call_function (hr.depth) (kIn _ _ lk) rfl (S.co) S.gen rfl (PySem.W.codeRec_of kIn hcd) (pend _ _ ?_)
  refine wpAny_newFunctionEnv_cells (S.kind) kinds fun env he s1 x => ?_
  subst he
  refine ⟨free.keeps x.toInCall.keep, codeAny_func ?_⟩
  have I0 := inv_start (CX := fun _ _ _ _ _ _ => False) (P := P) (w := w) (K := K) (mg := mg) (base := base) (qual := qual) (f := f) (cd := cdv) (outer := outer) (E := fun _ _ _ => False) S hr.hd e0 hl r x
  have I : Inv (cxF P w K mg base N qual scope f cdv A outer s H) [] (start N vs) H s1 :=
    ⟨⟨I0.ok.1, I0.ok.2, I0.ok.3, I0.ok.4, I0.ok.5, I0.ok.6, I0.ok.7, I0.ok.8, I0.ok.9, I0.ok.10, I0.ok.11, I0.ok.12, I0.ok.13, I0.ok.14, I0.ok.15, I0.ok.16, I0.ok.17, I0.ok.18⟩, I0.2, I0.3, I0.4, I0.5, I0.6, I0.7, I0.8, I0.9, I0.10, I0.11⟩
  obtain ⟨t, ht, hq⟩ := hb A outer s H vs Q E (hr.deeper _) hgu hsp
  have fin : ∀ {σ' : L2.St} {H' : Hp} {v : V} {u : Value} {s' : Shared}, Inv (cxF P w K mg base N qual scope f cdv A outer s H) [] σ' H' s' → RelV v u → Q v H' → CE outer P w H s Q u s' :=
    fun {σ' H' v u s'} J rv q => ⟨v, H', J.os, J.bare, J.base, J.hok, rv, q⟩
  refine wpAny_mono (ht.run [] s1 (start N vs) H _ I hq) (fun fl s' hs => ?_) fun e s' hs => hs.elim
  cases fl with
  | ret u =>
    obtain ⟨v, σ', H', J, rv, q⟩ := hs
    exact fin J rv q
  | next =>
    obtain ⟨σ', H', J, q⟩ := hs
    exact fin (v := V.non) J rfl q
  | brk =>
    obtain ⟨_, _, _, q⟩ := hs
    exact q.elim
  | cont =>
    obtain ⟨_, _, _, q⟩ := hs
    exact q.elim

/-! ### the script -/
def Scr (K : Frag) (H : Hp) (a : Addr) (xs : List V) : Prop := (∃ o, H a = some (.frz o (.lst xs))) ∨
    ∃ (o : Obj) (its : Array Value) (n : Nat), K.lookup a = some o ∧ o.cls = .type "list" ∧ o.dict = none ∧ o.data = .seq its n ∧ its.size ≤ sizeLine ∧ Vals xs its.toList
theorem Scr.seq {K : Frag} {H : Hp} {a : Addr} {xs : List V} (h : Scr K H a xs) : SqL K H a xs := by
  rcases h with h | h
  · exact .inl (.inr h)
  · exact .inr h
theorem Scr.of {K : Frag} {H : Hp} {a : Addr} {xs : List V} (n : Only H) (h : SqL K H a xs) : Scr K H a xs := by
  rcases h with (h | h) | h
  · rcases n a with q | ⟨o, ys, q⟩
    · rw [h] at q
      cases q
    · rw [h] at q
      cases q
  · exact .inl h
  · exact .inr h
theorem Scr.keep {K : Frag} {H H' : Hp} {a : Addr} {xs : List V} (h : Scr K H a xs) (k : ∀ b o u, H b = some (.frz o u) → H' b = some (.frz o u)) : Scr K H' a xs := by
  rcases h with ⟨o, h⟩ | h
  · exact .inl ⟨o, k _ _ _ h⟩
  · exact .inr h
theorem frz_upd {H : Hp} {p : Addr} {u : HO} (n : H p = none) : ∀ b o x, H b = some (.frz o x) → (upd H p u) b = some (.frz o x) := fun b o x e => by
  have : b ≠ p := fun z => by
    rw [z, n] at e
    cases e
  rw [upd_ne this]
  exact e
theorem frz_upd2 {H : Hp} {p : Addr} {u : HO} {ys : List V} (n : H p = some (.lst ys)) : ∀ b o x, H b = some (.frz o x) → (upd H p u) b = some (.frz o x) := fun b o x e => by
  have : b ≠ p := fun z => by
    rw [z, n] at e
    cases e
  rw [upd_ne this]
  exact e

/-! ### the head -/
theorem lawG_call {P : Program} {w : World} {K : Frag} {mg mb : Str → Option Value} {k : Nat} {fa a : Addr} {fd : FuncData} {x : Str} {sp : Sp} {s₁ : Shared} {us : List Value} {ns : List Int}
    (kIn : K.In s₁.heap) (gns : s₁.heap.Ns mainGlobals mg) (bns : s₁.heap.Ns builtinsNs mb) (bb : ∀ x : Str, x ≠ "__name__" → mb x = bootBuiltins x) (nol : s₁.heap.NoLimit) (ge : s₁.gens = #[])
    (ha : s₁.heap.get? a = some { cls := .type "list", data := .seq us.toArray }) (ii : IntsAre us ns) (il : ns.length ≤ sizeLine) (room : Room k callerA)
    (F : ∀ base : Heap, K.In base → base.Ns mainGlobals mg → FnG P w K mg base k fa fd [x] sp) (bd : ∀ (s : Shared) (u : Value), BindsTo s fd ⟨[u], []⟩ [(x, u)])
    (pr : ∀ H : Hp, Only H → SqL K H a (ns.map V.int) → sp [.ref a] H (fun v _ => v = .bl true) fun _ _ _ => False) :
    codeAny (model P w) callerA (.call (.ref fa) ⟨[.ref a], []⟩) (fun r s' => r = .ok (.ret (.bool true)) ∧ OldK s₁.heap s'.heap ∧ s'.os = s₁.os ∧ AllBare s'.gens) s₁ := by
  have rel := vals_ints ii
  have lens := ii.length
  have main : ∀ H : Hp, Only H → SqL K H a (ns.map V.int) → HOk P w H s₁.heap → (∀ b, H b ≠ none → b = a) → (H a ≠ none → K.lookup a = none) →
      codeAny (model P w) callerA (.call (.ref fa) ⟨[.ref a], []⟩) (fun r s' => r = .ok (.ret (.bool true)) ∧ OldK s₁.heap s'.heap ∧ s'.os = s₁.os ∧ AllBare s'.gens) s₁ := by
    intro H only hS hok one wrt
    have at_ : ∀ {b : Addr} {o : Obj}, s₁.heap.get? b = some o → H b = none → (hidT s₁.heap H).get? b = some o := fun e n => hidT_get e n
    have dict_free : ∀ {b : Addr} {o : Obj} {es : Array DictEntry} {ep : Nat}, s₁.heap.get? b = some o → o.data = .dict es ep → H b = none := fun {b o es ep} e d => by
      cases z : H b with
      | none => rfl
      | some v =>
        have e' : b = a := one b (by rw [z]; simp)
        subst e'
        rw [ha] at e
        cases e
        have d' : Data.seq us.toArray _ = Data.dict es ep := d
        cases d'
    have ns_ : ∀ {b : Addr} {m : Str → Option Value}, s₁.heap.Ns b m → (hidT s₁.heap H).Ns b m := fun {b m} ⟨o, es, ep, e, d, r⟩ => ⟨o, es, ep, at_ e (dict_free e d), d, r⟩
    have kb : K.In (hidT s₁.heap H) := fun b o e => at_ (kIn b o e) (by
      cases z : H b with
      | none => rfl
      | some v =>
        have e' : b = a := one b (by rw [z]; simp)
        subst e'
        rw [wrt (by rw [z]; simp)] at e
        cases e)
    have mod : Mod K mg (hidT s₁.heap H) := ⟨kb, ns_ gns, ⟨mb, ns_ bns, bb⟩, let ⟨mc, h1, h2⟩ := nol; ⟨mc, ns_ h1, h2⟩⟩
    have none_in : ∀ b : Addr, b ∉ ([] : List Addr) := fun b z => by cases z
    have e0 : Env0 P w K mg (hidT s₁.heap H) callerA [] s₁ H := ⟨rfl, mod, fun b o e => of_hidT e, Nat.le_of_eq (hidT_size _ _), trivial, fun b z => absurd z (none_in b), hok, .of_eq ge⟩
    have go := (F _ kb (ns_ gns)).run callerA [] s₁ H ⟨[.ref a], []⟩ [.ref a] [.ref a] _ _ room rfl e0 (bd s₁ (.ref a)) (.cons rfl .nil) (pr H only hS)
    refine codeAny_mono go fun r s' h => ?_
    cases r with
    | error e => exact h.elim
    | ok fl =>
      cases fl with
      | next => exact h.elim
      | brk => exact h.elim
      | cont => exact h.elim
      | ret u =>
        obtain ⟨v, H', os, bare, un, hok', r', q⟩ := h
        have ev : v = .bl true := q
        subst ev
        obtain rfl : u = Value.bool true := r'
        refine ⟨rfl, OldK.of_keep fun b o e => ?_, os, bare⟩
        cases z : H b with
        | none => exact un.keep b o e z (none_in b) (none_in b)
        | some v =>
          rcases only b with y | ⟨ob, xs, y⟩
          · rw [z] at y
            cases y
          · obtain ⟨e1, _⟩ := hok b _ y
            obtain ⟨e2, _⟩ := hok' b _ (un.frzs b ob _ y)
            rw [e] at e1
            cases e1
            exact e2
  cases hk : K.lookup a with
  | some o =>
    have e := kIn a o hk
    rw [ha] at e
    cases e
    have w : SqL K (fun _ => none) a (ns.map V.int) := .inr ⟨_, us.toArray, _, hk, rfl, rfl, rfl, by rw [List.size_toArray, lens]; exact il, by simpa using rel⟩
    exact main (fun _ => none) (fun _ => .inl rfl) w (fun b u z => by cases (show (none : Option HO) = some u from z)) (fun b z => absurd rfl z) fun z => absurd rfl z
  | none =>
    have here : ∀ {b : Addr} {u : HO}, (if b = a then some (HO.frz { cls := .type "list", data := .seq us.toArray } (.lst (ns.map V.int))) else none) = some u → b = a ∧ u = HO.frz { cls := .type "list", data := .seq us.toArray } (.lst (ns.map V.int)) := fun {b u} z => by
      split at z
      · rename_i e
        cases z
        exact ⟨e, rfl⟩
      · cases z
    refine main (fun b => if b = a then some (.frz { cls := .type "list", data := .seq us.toArray } (.lst (ns.map V.int))) else none) (fun b => ?_) (.inl (.inr ⟨{ cls := .type "list", data := .seq us.toArray }, if_pos rfl⟩)) (fun b u z => ?_) (fun b z => ?_) fun _ => hk
    · by_cases e : b = a
      · exact .inr ⟨_, _, if_pos e⟩
      · exact .inl (if_neg e)
    · obtain ⟨rfl, rfl⟩ := here z
      exact ⟨ha, by rw [List.length_map]; exact il, us, _, rel, ha⟩
    · by_cases e : b = a
      · exact e
      · exact absurd (if_neg e) z
/-- what k_head's kin leave, from the law's promise -/
theorem walk_ofG {l : PySem.W.OpenLaw} {n k : Nat} {q : Program} {loose : List Str} {XP : (Str → Option Value) → Heap → Prop} {YP : World → Heap → Prop} {d : DefRec} {x : Str}
    (hn : l.most = some n) (hn2 : n ≤ sizeLine) (hdf : d.params.defaults = []) (room : Room k callerA)
    (F : ∀ (w : World) (mg : Str → Option Value) (fa : Addr) (h : Heap), YP w h → h.Ns mainGlobals mg → mg d.name = some (.ref fa) →
      ∃ (K : Frag) (fd : FuncData) (sp : Sp), K.In h ∧ (∀ (s : Shared) (u : Value), BindsTo s fd ⟨[u], []⟩ [(x, u)]) ∧
        (∀ (H : Hp) (a : Addr) (ns : List Int), ns.length ≤ n → (∀ z ∈ ns, Builtin.Int.intBits z ≤ 1048576) → Only H → SqL K H a (ns.map V.int) → sp [.ref a] H (fun v _ => v = .bl true) fun _ _ _ => False) ∧
        ∀ base : Heap, K.In base → base.Ns mainGlobals mg → FnG l.prog w K mg base k fa fd [x] sp) :
    PySem.W.WalkO q loose XP YP l.row.toRowW d [] (fun f vs => PySem.call f vs) := by
  refine Att.attach_callB hn hdf fun w s₀ s₁ mg mb fa o pm cd doc a us ns G Y ho hd hcd hmg hobj hints hlen hbits hg => ?_
  obtain ⟨K, fd, sp, kIn, bd, pr, hF⟩ := F w mg fa _ Y G.T.g hmg
  exact lawG_call kIn G.T.g G.T.b G.T.builtins G.T.nolimit hg hobj hints (Nat.le_trans hlen hn2) room hF bd fun H hO hS => pr H a ns hlen hbits hO hS
end Qv
end
section
set_option Elab.async false
set_option linter.all false
set_option maxRecDepth 100000
set_option maxHeartbeats 4000000
/-! Q21: the defs of a law that read the script. -/
namespace Qv
open PySem PySem.Spec PyProof.Rows L2

/-! ### what is drawn from the script -/
def spPot (K : Frag) : Sp := fun vs H Q _ => ∃ (a : Addr) (ns : List Int) (k : Nat), vs = [.ref a, .int (k : Int)] ∧ SqL K H a (ns.map V.int) ∧ k ≤ 100 ∧ ns.length ≤ 63 ∧
  ∀ p x y, H p = none → 0 ≤ x → 1 ≤ y → y ≤ 4294967296 → Q (.ref p) (upd H p (.lst [.int x, .int y]))
section
variable {X : Cx} {pos : Pos}
theorem pot_body {sc : Scope} {p1 p2 p3 p4 p5 p6 p7 p8 p9 p10 p11 p12 p13 p14 p15 p16 p17 p18 p19 p20 p21 p22 p23 p24 p25 p26 p27 p28 p29 p30 p31 p32 p33 p34 p35 p36 p37 p38 p39 p40 p41 p42 p43 p44 p45 p46 p47 : Pos} {k1 k2 k3 k4 k5 k6 k7 k8 k9 k10 k11 : Nat} {c0 c1 m1 c2 c3 c4 m2 : Int}
    (hN : X.N = (["script", "k", "cell"] : List Str)) (hs : X.env.scope = sc) (hc : X.calm = true)
    (l0 : sc.names.lookup ("script" : Str) = some .local) (l1 : sc.names.lookup ("k" : Str) = some .local) (l2 : sc.names.lookup ("cell" : Str) = some .local)
    (g1 : sc.names.lookup ("len" : Str) = some .globalImplicit) (g2 : sc.names.lookup ("abs" : Str) = some .globalImplicit) (g3 : sc.names.lookup ("max" : Str) = some .globalImplicit) (g4 : sc.names.lookup ("int" : Str) = some .globalImplicit)
    (m : ∀ x ∈ bnames, X.mg x = none) (hm1 : 0 < m1 ∧ m1 ≤ 4294967295) (hm2 : 0 < m2 ∧ m2 ≤ 4294967295) (h0 : 0 ≤ c0 ∧ c0 ≤ 4294967295) (h2 : 0 ≤ c2 ∧ c2 ≤ 4294967295) (h3 : 0 ≤ c3 ∧ c3 ≤ 4294967295) :
    ∃ t, PSs X [.Assign [.Name "cell" p1] (.IfExp (.Compare (.Name "k" p2) [.Lt] [.Call (.Name "len" p3) [.Name "script" p4] [] p5] p6) (.Call (.Name "abs" p7) [.Subscript (.Name "script" p8) (.Name "k" p9) p10] [] p11)
        (.BinOp (.BinOp (.Constant (.int c0) k1 p12) .Mult (.Name "k" p13) p14) .Add (.Constant (.int c1) k2 p15) p16) p17) p18,
      .Return (some (.List [.Call (.Name "max" p19) [.Constant (.int 0) k3 p20, .BinOp (.Name "cell" p21) .Sub (.BinOp (.Constant (.int 10) k4 p22) .Pow (.Constant (.int 18) k5 p23) p24) p25] [] p26,
        .BinOp (.BinOp (.Call (.Name "int" p27) [.BinOp (.BinOp (.BinOp (.BinOp (.Call (.Name "int" p28) [.Name "cell" p29] [] p30) .Mod (.Constant (.int m1) k6 p31) p32) .Mult (.Constant (.int c2) k7 p33) p34) .Add (.BinOp (.Constant (.int c3) k8 p35) .Mult (.Name "k" p36) p37) p38) .Add (.Constant (.int c4) k9 p39) p40] [] p41)
          .Mod (.Constant (.int m2) k10 p42) p43) .Add (.Constant (.int 1) k11 p44) p45] p46)) p47] t ∧
      ∀ vs H Q E, spPot X.K vs H Q E → t { nx := fun _ H' => Q .non H', rt := Q } (start ["script", "k", "cell"] vs) H := by
  subst hs
  have nd : X.N.Nodup := by
    rw [hN]
    decide +kernel
  have n0 : X.N[0]? = some ("script" : Str) := by rw [hN]; rfl
  have n1 : X.N[1]? = some ("k" : Str) := by rw [hN]; rfl
  have n2 : X.N[2]? = some ("cell" : Str) := by rw [hN]; rfl
  have v0 : ∀ p, PE X (.Name "script" p) (tVar 0) := fun p => pe_var n0 (.inl l0)
  have v1 : ∀ p, PE X (.Name "k" p) (tVar 1) := fun p => pe_var n1 (.inl l1)
  have v2 : ∀ p, PE X (.Name "cell" p) (tVar 2) := fun p => pe_var n2 (.inl l2)
  refine ⟨_, pss_cons (ps_set (i := 2) nd n2 (.inl l2) (pe_ifExp (pt_cmpR op_lt (v1 _) (pe_callB call_len_seq g1 (m _ (by decide)) PySem.boot_len (pa_cons (v0 _) pa_nil)) (nomark _))
      (pe_callB call_abs g2 (m _ (by decide)) rfl (pa_cons (pe_ix ix_seq (v0 _) (v1 _) (fun _ _ => rfl)) pa_nil)) (pe_op op_add (pe_op op_mul pe_int (v1 _)) pe_int)) (hf := .inr l2))
    (pss_one (ps_ret (pe_lst (pa_cons (pe_callB (call_max2 hc) g3 (m _ (by decide)) rfl (pa_cons pe_int (pa_cons (pe_op op_sub (v2 _) (pe_op op_pow pe_int pe_int)) pa_nil)))
      (pa_cons (pe_op op_add (pe_op op_modN (pe_callTy call_int1 g4 (m _ (by decide)) rfl (pa_cons (pe_op op_add (pe_op op_add (pe_op op_mul (pe_op op_modN (pe_callTy call_int1 g4 (m _ (by decide)) rfl (pa_cons (v2 _) pa_nil)) pe_int) pe_int) (pe_op op_mul pe_int (v1 _))) pe_int) pa_nil)) pe_int) pe_int) pa_nil))))), ?_⟩
  intro vs H Q E h
  obtain ⟨a, ns, k, rfl, hS, hk, hl, z⟩ := h
  have two : (2 : Nat) ≤ sizeLine := by decide
  have bk : CMul c0 (k : Int) := .inl ⟨by omega, by omega⟩
  have bk3 : CMul c3 (k : Int) := .inl ⟨by omega, by omega⟩
  refine ⟨.int k, rfl, .ref a, rfl, a, ns.map V.int, rfl, .inl hS, k, _, rfl, rfl, _, rfl, ite2 (fun hlt => ?_) (fun hge => ?_)⟩
  · have hlt : (k : Int) < ((ns.map V.int).length : Int) := of_decide_eq_true hlt
    rw [List.length_map] at hlt
    have hk2 : k < ns.length := by omega
    have e : (ns.map V.int)[k]? = some (.int ns[k]) := by
      rw [List.getElem?_map, List.getElem?_eq_getElem hk2]
      rfl
    refine ⟨.ref a, rfl, .int k, rfl, .inl ⟨a, ns.map V.int, k, .int ns[k], rfl, rfl, hS, atI_nat e, ns[k], rfl, ?_⟩⟩
    generalize (if ns[k] < 0 then -ns[k] else ns[k]) = cell
    have b1 : 0 ≤ cell.fmod m1 := Int.fmod_nonneg_of_pos _ hm1.1
    have b2 : cell.fmod m1 < m1 := Int.fmod_lt_of_pos _ hm1.1
    refine ⟨.int cell, rfl, 10, 18, rfl, rfl, ⟨by decide, by decide, by decide⟩, _, _, rfl, rfl, _, _, rfl, ?_⟩
    refine ⟨.int cell, rfl, .inl ⟨cell, rfl, _, _, rfl, rfl, (by omega : m1 ≠ 0), _, _, rfl, rfl, .inl ⟨by omega, by omega⟩, .int k, rfl, _, _, rfl, rfl, bk3, _, _, rfl, rfl, _, _, rfl, rfl, .inl ⟨_, rfl, _, _, rfl, rfl, (by omega : m2 ≠ 0), _, _, rfl, rfl, ?_⟩⟩⟩
    refine ⟨two, fun p hp => z p _ _ hp ?_ ?_ ?_⟩
    · split <;> omega
    · have := Int.fmod_nonneg_of_pos (cell.fmod m1 * c2 + c3 * (k : Int) + c4) hm2.1
      omega
    · have := Int.fmod_lt_of_pos (cell.fmod m1 * c2 + c3 * (k : Int) + c4) hm2.1
      omega
  · refine ⟨.int k, rfl, _, _, rfl, rfl, bk, _, _, rfl, rfl, ?_⟩
    dsimp only
    generalize c0 * (k : Int) + c1 = cell
    have b1 : 0 ≤ cell.fmod m1 := Int.fmod_nonneg_of_pos _ hm1.1
    have b2 : cell.fmod m1 < m1 := Int.fmod_lt_of_pos _ hm1.1
    refine ⟨.int cell, rfl, 10, 18, rfl, rfl, ⟨by decide, by decide, by decide⟩, _, _, rfl, rfl, _, _, rfl, ?_⟩
    refine ⟨.int cell, rfl, .inl ⟨cell, rfl, _, _, rfl, rfl, (by omega : m1 ≠ 0), _, _, rfl, rfl, .inl ⟨by omega, by omega⟩, .int k, rfl, _, _, rfl, rfl, bk3, _, _, rfl, rfl, _, _, rfl, rfl, .inl ⟨_, rfl, _, _, rfl, rfl, (by omega : m2 ≠ 0), _, _, rfl, rfl, ?_⟩⟩⟩
    refine ⟨two, fun p hp => z p _ _ hp ?_ ?_ ?_⟩
    · split <;> omega
    · have := Int.fmod_nonneg_of_pos (cell.fmod m1 * c2 + c3 * (k : Int) + c4) hm2.1
      omega
    · have := Int.fmod_lt_of_pos (cell.fmod m1 * c2 + c3 * (k : Int) + c4) hm2.1
      omega

/-! ### the law -/
def spLaw (K : Frag) : Sp := fun vs H Q _ => ∃ (a : Addr) (ns : List Int), vs = [.ref a] ∧ Scr K H a (ns.map V.int) ∧ ns.length ≤ 63 ∧ ∀ H', Q (.bl true) H'
theorem flat_trues {K : Frag} {H : Hp} {D : Addr} {L : List En} {n : Nat} (h : Wd K H ((some (.ol (List.replicate n (shB true))), .ref D) :: L)) : H D = some (.lst (List.replicate n (.bl true))) := by
  obtain ⟨G, A, s, ⟨B, C, q1, q2, rfl⟩, nd, f⟩ := h
  simp only [OwE, Ow] at q1
  obtain ⟨a, vs, B', e, ha, q, rfl⟩ := q1
  cases e
  have all : ∀ (n : Nat) (vs : List V) (A : List Addr), OwL K G H (List.replicate n (shB true)) vs A → vs = List.replicate n (.bl true) := by
    intro n
    induction n with
    | zero =>
      intro vs A h
      simp only [List.replicate_zero, OwL] at h
      exact h.1
    | succ n ih =>
      intro vs A h
      simp only [List.replicate_succ, OwL, shB, Ow, Sh] at h
      obtain ⟨v, r, B, C, rfl, ⟨_, rfl⟩, h2, _⟩ := h
      rw [ih r C h2]
      rfl
  rw [ha, all n vs _ q]
def tElt (K : Frag) (F : List O → Option (O × List O)) : TE := fun σ H Q => tCons (fun σ H Q => tCons (tVar 0) (tCons (tVar 1) tNil) σ H fun vs H1 => spPot K vs H1 Q E0) tNil σ H fun vs H1 =>
  spF K F vs H1 (fun v H' => (∀ b o u, H1 b = some (.frz o u) → H' b = some (.frz o u)) → Q v H') E0
theorem law_body {sc scope : Scope} {p1 p2 p3 p4 p5 p6 p7 p8 p9 p10 p11 p12 p13 p14 p15 p16 p17 p18 p19 p20 p21 p22 : Pos} {k1 k2 : Nat} {c1 c2 : Int} {k : Nat} {fR fP : Addr} {dR dP : FuncData} {F : List O → Option (O × List O)}
    (hN : X.N = (["script", "k"] : List Str)) (hs : X.env.scope = sc) (hc : X.calm = true) (hr : Room k X.A) (hg : X.A.guards = some []) (l0 : sc.names.lookup ("script" : Str) = some .cell)
    (g1 : sc.names.lookup ("all" : Str) = some .globalImplicit) (g2 : sc.names.lookup ("range" : Str) = some .globalImplicit) (g3 : sc.names.lookup ("max" : Str) = some .globalImplicit) (g4 : sc.names.lookup ("min" : Str) = some .globalImplicit)
    (g5 : sc.names.lookup ("len" : Str) = some .globalImplicit) (ok : blkC ["script", "k"] sc scope [("k", 1)] = true) (b0 : (relS scope sc).names.lookup ("script" : Str) = some .cell) (b1 : (relS scope sc).names.lookup ("k" : Str) = some .local)
    (b2 : (relS scope sc).names.lookup ("_law_right" : Str) = some .globalImplicit) (b3 : (relS scope sc).names.lookup ("_law_pot" : Str) = some .globalImplicit)
    (m : ∀ x ∈ bnames, X.mg x = none) (FR : FnG X.prog X.w X.K X.mg X.base k fR dR ["pot"] (spF X.K F)) (mR : X.mg "_law_right" = some (.ref fR)) (kR : PySem.W.keepIn X.K (.ref fR) = true) (bR : ∀ (s : Shared) (us : List Value), us.length = 1 → BindsTo s dR ⟨us, []⟩ ((["pot"] : List Str).zip us))
    (FP : FnG X.prog X.w X.K X.mg X.base k fP dP ["script", "k"] (spPot X.K)) (mP : X.mg "_law_pot" = some (.ref fP)) (kP : PySem.W.keepIn X.K (.ref fP) = true) (bP : ∀ (s : Shared) (us : List Value), us.length = 2 → BindsTo s dP ⟨us, []⟩ ((["script", "k"] : List Str).zip us))
    (hF : ∀ x y : Int, 0 ≤ x → 1 ≤ y → y ≤ 4294967296 → ∃ o2, F [.ol [shI x, shI y]] = some (.sh (.bool true), [o2])) (hc1 : 0 ≤ c1 ∧ c1 ≤ 50) (hc2 : 0 ≤ c2 ∧ c2 ≤ 50) :
    ∃ t, PSs X [.Return (some (.Call (.Name "all" p1) [.ListComp (.Call (.Name "_law_right" p2) [.Call (.Name "_law_pot" p3) [.Name "script" p4, .Name "k" p5] [] p6] [] p7) [⟨.Name "k" p8, .Call (.Name "range" p9) [.Call (.Name "max" p10) [.Constant (.int c1) k1 p11,
        .Call (.Name "min" p12) [.Constant (.int c2) k2 p13, .Call (.Name "len" p14) [.Name "script" p15] [] p16] [] p17] [] p18] [] p19, [], 0⟩] scope p20] [] p21)) p22] t ∧
      ∀ vs H Q E, spLaw X.K vs H Q E → t { nx := fun _ H' => Q .non H', rt := Q } (start ["script", "k"] vs) H := by
  subst hs
  have nd : X.N.Nodup := by
    rw [hN]
    decide +kernel
  have n0 : X.N[0]? = some ("script" : Str) := by rw [hN]; rfl
  have n1 : X.N[1]? = some ("k" : Str) := by rw [hN]; rfl
  have okB : BlkOk X.N X.env.scope scope [("k", 1)] := by
    rw [hN]
    exact blkOk_by ok
  have vb0 : ∀ (s : Shared) (H : Hp) (B : Addr) (cl : List (Str × Addr)) (fp : List Addr) (p : Pos), PE (X.blk s H scope (compEnvC scope cl B X.env) fp) (.Name "script" p) (tVar 0) := fun s H B cl fp p => pe_var n0 (.inr (.inl b0))
  have vb1 : ∀ (s : Shared) (H : Hp) (B : Addr) (cl : List (Str × Addr)) (fp : List Addr) (p : Pos), PE (X.blk s H scope (compEnvC scope cl B X.env) fp) (.Name "k" p) (tVar 1) := fun s H B cl fp p => pe_var n1 (.inl b1)
  have elt : ∀ (s : Shared) (H : Hp) (B : Addr) (cl : List (Str × Addr)) (fp : List Addr), PE (X.blk s H scope (compEnvC scope cl B X.env) fp) (.Call (.Name "_law_right" p2) [.Call (.Name "_law_pot" p3) [.Name "script" p4, .Name "k" p5] [] p6] [] p7) (tElt X.K F) := fun s H B cl fp =>
    pe_callG (X := X.blk s H scope (compEnvC scope cl B X.env) fp) FR.frz hr hg b2 mR kR bR
      (pa_cons (X := X.blk s H scope (compEnvC scope cl B X.env) fp) (pe_callG (X := X.blk s H scope (compEnvC scope cl B X.env) fp) FP hr hg b3 mP kP bP (pa_cons (vb0 s H B cl fp _) (pa_cons (vb1 s H B cl fp _) pa_nil)) (by decide) rfl rfl) pa_nil) (by decide) rfl rfl
  refine ⟨_, pss_one (ps_ret (pe_callB (cr_all hc) g1 (m _ (by decide)) rfl (pa_cons (pe_lc (own := [("k", 1)]) hc nd
      (pi_range1 g2 (m _ (by decide)) (pa_cons (pe_callB (call_max2 hc) g3 (m _ (by decide)) rfl (pa_cons pe_int (pa_cons (pe_callB (call_min2 hc) g4 (m _ (by decide)) rfl (pa_cons pe_int (pa_cons (pe_callB call_len_seq g5 (m _ (by decide)) PySem.boot_len (pa_cons (pe_var n0 (.inr (.inl l0))) pa_nil)) pa_nil))) pa_nil))) pa_nil))
      okB (fun s H B cl fp => pg_name (i := 1) nd n1 (.inl b1) (.inr b1)) (fun s H B cl fp => pts_nil)
      elt (fun _ => rfl)) pa_nil))), ?_⟩
  intro vs H Q E h
  obtain ⟨a, ns, rfl, hS, hl, z⟩ := h
  refine ⟨.ref a, rfl, a, ns.map V.int, rfl, .inl hS.seq, c2, _, rfl, c1, _, rfl, _, rfl, ?_, ?_, ?_⟩
  · have : 0 ≤ ((ns.map V.int).length : Int) := Int.natCast_nonneg _
    split <;> split <;> omega
  · rw [List.length_map]
    split <;> split <;> omega
  generalize hj : (if (if ((ns.map V.int).length : Int) < c2 then ((ns.map V.int).length : Int) else c2) > c1 then (if ((ns.map V.int).length : Int) < c2 then ((ns.map V.int).length : Int) else c2) else c1) = j
  have hj2 : j.toNat ≤ 100 := by
    rw [List.length_map] at hj
    subst hj
    split <;> split <;> omega
  intro D hD
  refine ⟨fun i mm H1 => mm = j.toNat - i ∧ i ≤ j.toNat ∧ Scr X.K H1 a (ns.map V.int) ∧ Wd X.K H1 [(some (.ol (List.replicate i (shB true))), .ref D)], ⟨j.toNat, rfl, Nat.zero_le _, hS.keep (frz_upd hD), ?_⟩, ?_⟩
  · have w0 : Wd X.K H ([] : List En) := ⟨H, [], fun _ _ e => e, rfl, List.nodup_nil, fun _ z => by cases z⟩
    exact Wd.list (os := []) (vs := []) (L := []) w0 rfl hD
  · rintro i mm H1 ⟨rfl, hi, hS1, w1⟩
    by_cases hlt : i < j.toNat
    · refine .inr ⟨hlt, fun H' => Scr X.K H' a (ns.map V.int) ∧ Wd X.K H' [(some (.ol (List.replicate (i + 1) (shB true))), .ref D)], fun H' hn => ⟨j.toNat - (i + 1), by omega, rfl, hlt, hn.1, hn.2⟩, fun x H' y => ?_⟩
      obtain ⟨rfl, rfl⟩ := y
      refine ⟨rfl, ?_⟩
      refine iteT (B := Scr X.K H' a (ns.map V.int) ∧ Wd X.K H' [(some (.ol (List.replicate (i + 1) (shB true))), .ref D)]) ?_
      refine ⟨.ref a, rfl, .int (0 + (i : Int)), rfl, a, ns, i, by rw [Int.zero_add], hS1.seq, by omega, hl, fun p x y hp h1 h2 h3 => ?_⟩
      obtain ⟨o2, hFe⟩ := hF x y h1 h2 h3
      have wp : Wd X.K (upd H' p (.lst [.int x, .int y])) ((some (.ol [shI x, shI y]), .ref p) :: [(some (.ol (List.replicate i (shB true))), .ref D)]) := by
        have w2 := (w1.flat (d := .int y) (v := .int y) fun _ => by simp only [Sh]).flat (d := .int x) (v := .int x) fun _ => by simp only [Sh]
        exact Wd.list (os := [shI x, shI y]) (vs := [.int x, .int y]) w2 rfl hp
      refine ⟨[.ol [shI x, shI y]], .sh (.bool true), [o2], [(some (.ol (List.replicate i (shB true))), .ref D)], hFe, rfl, wp, fun v H2 w2 kz => ?_⟩
      have w3 : Wd X.K H2 ((some (.sh (.bool true)), v) :: [(some (.ol (List.replicate i (shB true))), .ref D)]) := Wd.drop (e := (some o2, .ref p)) w2
      obtain ⟨G, sG, hv, _⟩ := sub_wd w3
      have hv : v = .bl true := by simpa only [Sh] using hv
      subst hv
      have hD2 := flat_trues w3.drop
      refine ⟨List.replicate i (.bl true), hD2, ?_, ((hS1.keep (frz_upd hp)).keep kz).keep (frz_upd2 hD2), ?_⟩
      · rw [List.length_replicate]
        exact Nat.lt_of_lt_of_le (show i < 1000 by omega) (by decide)
      · have w4 := w3.perm (.swap ..)
        obtain ⟨b, vs, e1, e2, l, w5⟩ := Wd.open w4
        cases e1
        rw [hD2] at e2
        cases e2
        have l2 : (List.replicate i (shB true) ++ [shB true]).length = (List.replicate i (V.bl true) ++ [V.bl true]).length := by simp
        rw [List.replicate_succ']
        refine Wd.close (L := []) ?_ l2
        rw [ens_append l, List.append_assoc]
        exact w5
    · have e : i = j.toNat := by omega
      subst e
      refine .inl ⟨Nat.le_refl _, ?_⟩
      refine ⟨D, List.replicate j.toNat true, rfl, .inl (.inl ?_), ?_⟩
      · rw [List.map_replicate]
        exact flat_trues w1
      · have e : (List.replicate j.toNat true).all id = true := by simp
        rw [e]
        exact z _
end
end Qv
end
section
set_option Elab.async false
set_option linter.all false
set_option maxRecDepth 100000
set_option maxHeartbeats 4000000
/-! Q22: from the head's facts to all defs. -/
namespace Qv
open PySem PySem.Spec PyProof.Rows L2

def mkD (x : Str) (st : Stmt) : He.DefD := ⟨(x, none), x, x, defArgs st, defBody st, defScope st, [], []⟩
abbrev Rw : Type := Nat × List Str × Fd
def fnL (top : Nat → Stmt) (g : Pg) (rows : List Rw) : List He.DefD := (g.fs.zip rows).map fun p => mkD p.1.1 (top p.2.1)
def cFa (q : Str × PyData) : He.Fa := match q.2 with
  | .str z => .str q.1 z
  | .int i => .int q.1 i
  | _ => .glo q.1
def faL (g : Pg) : List He.Fa := g.fs.map (fun p => .glo p.1) ++ (bnames.map .free ++ g.cs.map cFa)
def csB (g : Pg) : Bool := g.cs.all fun q => match q.2 with
  | .str _ => true
  | .int _ => true
  | _ => false
def fsB (N ps : List Str) (sc : Scope) : Bool := fnk sc && !sc.isCoroutine && !sc.isGenerator && decide N.Nodup && decide (N.take ps.length = ps) && (ps.all fun x => decide (sc.names.lookup x = some .local) || decide (sc.names.lookup x = some .cell)) && sc.names.all fun y => decide (y.2 ≠ .free)
theorem fsB_ok {N ps : List Str} {sc : Scope} (h : fsB N ps sc = true) : FnScope N ps sc := by
  unfold fsB at h
  simp only [Bool.and_eq_true, Bool.not_eq_true', decide_eq_true_eq, List.all_eq_true, Bool.or_eq_true] at h
  obtain ⟨⟨⟨⟨⟨⟨h1, h2⟩, h3⟩, h4⟩, h5⟩, h6⟩, h7⟩ := h
  exact ⟨fnk_ok h1, h2, h3, h4, h5, h6, h7⟩
def rowB (top : Nat → Stmt) (g : Pg) (p : (Str × List Str) × Rw) : Bool := decide (p.2.2.2.np = p.1.2.length) && decide (p.2.2.2.ns = p.2.2.1.length) && fsB p.2.2.1 p.1.2 (defScope (top p.2.1)) && ckSs g ⟨p.2.2.1, defScope (top p.2.1), fun _ => true⟩ (kpOf p.2.2.2) p.2.2.2.body (defBody (top p.2.1))
def allB (top : Nat → Stmt) (g : Pg) (rows : List Rw) : Bool := decide (g.fs.length = rows.length) && (g.fs.zip rows).all (rowB top g) && csB g
/-- how each def's arguments bind -/
def HB (top : Nat → Stmt) (p : (Str × List Str) × Rw) : Prop := ∀ (kV doc pm : Value) (an : Option Addr) (cdv ct : Value) (us : List Value), us.length = p.1.2.length →
  bindArgs (PySem.W.fnOf p.1.1 p.1.1 (defArgs (top p.2.1)) (defBody (top p.2.1)) (defScope (top p.2.1)) .none kV doc pm an cdv ct) ⟨us, []⟩ = pure (p.1.2.zip us)
def AllHB (top : Nat → Stmt) : List ((Str × List Str) × Rw) → Prop
  | [] => True
  | p :: ps => HB top p ∧ AllHB top ps
theorem AllHB.get {top : Nat → Stmt} : ∀ {l : List ((Str × List Str) × Rw)} {p : (Str × List Str) × Rw}, AllHB top l → p ∈ l → HB top p
  | q :: l, p, h, m => (List.mem_cons.mp m).elim (fun e => e ▸ h.1) fun m => AllHB.get h.2 m
def HK (top : Nat → Stmt) (g : Pg) (rows : List Rw) (q : Nat × List Str × Nat × List Nat) : Prop := ∀ p, (g.fs.zip rows)[q.1]? = some p → ∀ (kV doc pm : Value) (an : Option Addr) (cdv ct : Value) (us ws : List Value), us.length = q.2.2.1 → ws.length = q.2.1.length →
  bindArgs (PySem.W.fnOf p.1.1 p.1.1 (defArgs (top p.2.1)) (defBody (top p.2.1)) (defScope (top p.2.1)) .none kV doc pm an cdv ct) ⟨us, q.2.1.zip ws⟩ = pure (p.1.2.zip (permL q.2.2.2 (us ++ ws)))
def AllHK (top : Nat → Stmt) (g : Pg) (rows : List Rw) : List (Nat × List Str × Nat × List Nat) → Prop
  | [] => True
  | p :: ps => HK top g rows p ∧ AllHK top g rows ps
theorem AllHK.get {top : Nat → Stmt} {g : Pg} {rows : List Rw} : ∀ {l : List (Nat × List Str × Nat × List Nat)} {p : Nat × List Str × Nat × List Nat}, AllHK top g rows l → p ∈ l → HK top g rows p
  | q :: l, p, h, m => (List.mem_cons.mp m).elim (fun e => e ▸ h.1) fun m => AllHK.get h.2 m
section
variable {K : Frag} {h : Heap} {mg : Str → Option Value} {top : Nat → Stmt} {g : Pg} {rows : List Rw} {fa : List He.Fa} {fn : List He.DefD}
theorem fact_mem (c : He.SaysD fa fn K) {f : He.Fa} (m : f ∈ fa) : f.ok K = true := by
  obtain ⟨i, hi⟩ := List.mem_iff_getElem?.mp m
  exact c.fact i hi
theorem def_mem (c : He.SaysD fa fn K) {d : He.DefD} (m : d ∈ fn) : ∃ fd, FunD K d.name d.qual d.params d.body d.scope (d.dvs K) (d.kws K) (He.fAd K d.at_) fd := by
  obtain ⟨i, hi⟩ := List.mem_iff_getElem?.mp m
  exact c.def_ i hi
/-- a def that stands there -/
theorem mk_fun (c : He.SaysD fa fn K) {x : Str} {st : Stmt} (m : mkD x st ∈ fn) : ∃ (oc : Value) (od : Option Addr) (kV doc pm : Value) (an : Option Addr) (cdv ct : Value) (osl : Array (Option Value)),
    K.lookup (He.ga K x) = some ⟨oc, od, .func (PySem.W.fnOf x x (defArgs st) (defBody st) (defScope st) .none kV doc pm an cdv ct), osl⟩ ∧ PySem.W.codeIn K cdv x = true ∧ PySem.W.keepIn K (.ref (He.ga K x)) = true := by
  obtain ⟨fd, F⟩ := def_mem c m
  obtain ⟨oc, od, dV, kV, doc, pm, an, cdv, ct, osl, rfl, lk, hcd, hD, hK⟩ := F.ex
  have hd : dV = .none := by
    rcases hD with ⟨_, e⟩ | ⟨e, _⟩
    · exact e
    · exact absurd rfl e
  subst hd
  exact ⟨oc, od, kV, doc, pm, an, cdv, ct, osl, lk, hcd, F.kp⟩
theorem zip_get {α β : Type} : ∀ {xs : List α} {ys : List β} {j : Nat} {x : α}, xs.length = ys.length → xs[j]? = some x → ∃ y, ys[j]? = some y ∧ (xs.zip ys)[j]? = some (x, y)
  | [], _, _, _, _, h => by simp at h
  | x :: xs, y :: ys, 0, z, _, h => by
    simp at h
    subst h
    exact ⟨y, rfl, rfl⟩
  | x :: xs, y :: ys, j + 1, z, l, h => by
    obtain ⟨u, h1, h2⟩ := zip_get (xs := xs) (ys := ys) (j := j) (x := z) (by simpa using l) (by simpa using h)
    exact ⟨u, by simpa using h1, by simpa using h2⟩
  | _ :: _, [], _, _, l, _ => by cases l
theorem ax_of (X : K.In h) (G : h.Ns mainGlobals mg) (c : He.SaysD (faL g ++ fa) (fnL top g rows ++ fn) K) (hr : allB top g rows = true) (hb : AllHB top (g.fs.zip rows)) (hk : AllHK top g rows g.kw) :
    ∃ fA fD, Ax K mg g (rows.map (·.2.2)) fA fD := by
  unfold allB at hr
  simp only [Bool.and_eq_true, decide_eq_true_eq] at hr
  obtain ⟨⟨hl, hrow⟩, hcs⟩ := hr
  have per : ∀ j : Nat, ∃ (a : Addr) (fd : FuncData), ∀ x ps, g.fs[j]? = some (x, ps) → mg x = some (.ref a) ∧ PySem.W.keepIn K (.ref a) = true ∧ (∀ (s : Shared) (us : List Value), us.length = ps.length → BindsTo s fd ⟨us, []⟩ (ps.zip us)) ∧
    (∀ ks n pm, (j, ks, n, pm) ∈ g.kw → KwB fd ps ks n pm) ∧
    ∃ (name qual : Str) (params : Arguments) (body : List Stmt) (scope : Scope) (dV kV doc pm cdv ct oc : Value) (an od : Option Addr) (osl : Array (Option Value)) (N : List Str) (fd' : Fd),
      fd = PySem.W.fnOf name qual params body scope dV kV doc pm an cdv ct ∧ K.lookup a = some ⟨oc, od, .func fd, osl⟩ ∧ PySem.W.codeIn K cdv qual = true ∧ FnScope N ps scope ∧ (rows.map (·.2.2))[j]? = some fd' ∧ fd'.np = ps.length ∧ fd'.ns = N.length ∧
      ckSs g ⟨N, scope, fun _ => true⟩ (kpOf fd') fd'.body body = true := by
    intro j
    cases hj : g.fs[j]? with
    | none => exact ⟨0, default, fun x ps e => by cases e⟩
    | some q =>
      obtain ⟨x, ps⟩ := q
      obtain ⟨r, h1, h2⟩ := zip_get hl hj
      have hz := List.mem_of_getElem? h2
      have ck := List.all_eq_true.mp hrow _ hz
      unfold rowB at ck
      simp only [Bool.and_eq_true, decide_eq_true_eq] at ck
      obtain ⟨⟨⟨c1, c2⟩, c3⟩, c4⟩ := ck
      have md : mkD x (top r.1) ∈ fnL top g rows ++ fn := List.mem_append_left _ (List.mem_map.mpr ⟨_, hz, rfl⟩)
      obtain ⟨oc, od, kV, doc, pm, an, cdv, ct, osl, lk, hcd, kp⟩ := mk_fun c md
      have mgx : mg x = some (.ref (He.ga K x)) := He.glo_ok X G (fact_mem c (List.mem_append_left _ (List.mem_append_left _ (List.mem_map.mpr ⟨_, List.mem_of_getElem? hj, rfl⟩))))
      refine ⟨He.ga K x, PySem.W.fnOf x x (defArgs (top r.1)) (defBody (top r.1)) (defScope (top r.1)) .none kV doc pm an cdv ct, fun x' ps' e => ?_⟩
      cases e
      refine ⟨mgx, kp, fun s us l => .of_eq (hb.get hz kV doc pm an cdv ct us l), fun ks n pm' m s us ws l1 l2 => .of_eq (hk.get m _ h2 kV doc pm an cdv ct us ws l1 l2), ?_⟩
      exact ⟨_, _, _, _, _, _, kV, doc, pm, cdv, ct, oc, an, od, osl, r.2.1, r.2.2, rfl, lk, hcd, fsB_ok c3, by rw [List.getElem?_map, h1]; rfl, c1, c2, c4⟩
  refine ⟨fun j => Classical.choose (per j), fun j => Classical.choose (Classical.choose_spec (per j)), fun x m => ?_, fun x d m => ?_, fun j x ps e => Classical.choose_spec (Classical.choose_spec (per j)) x ps e⟩
  · exact He.free_ok X G (fact_mem c (List.mem_append_left _ (List.mem_append_right _ (List.mem_append_left _ (List.mem_map.mpr ⟨_, m, rfl⟩)))))
  · have f : (cFa (x, d)).ok K = true := fact_mem c (List.mem_append_left _ (List.mem_append_right _ (List.mem_append_right _ (List.mem_map.mpr ⟨_, m, rfl⟩))))
    have q := List.all_eq_true.mp hcs _ m
    cases d with
    | str z =>
      obtain ⟨t, ht⟩ := He.str_ok X G (x := x) (z := z) f
      exact ⟨_, .str z, ht, ⟨t, rfl⟩, fun _ => by simp only [Sh]⟩
    | int z =>
      obtain ⟨t, ht⟩ := He.int_ok X G (x := x) (i := z) f
      exact ⟨_, .int z, ht, ⟨t, rfl⟩, fun _ => by simp only [Sh]⟩
    | _ => cases q
end
end Qv
end
section
set_option Elab.async false
set_option linter.all false
set_option maxRecDepth 100000
/-! Q23: computing with terms. -/
namespace Qv
open PySem PySem.Spec PyProof.Rows L2

section
variable {C : Cal} {ρ ρ1 ρ2 : Env}
@[simp] theorem isNm_nm {i : Nat} : isNm (.nm i) = some i := rfl
@[simp] theorem evs_nil : evs C [] ρ = some ([], ρ) := by simp only [evs]
@[simp] theorem evs_cons {e : T} {es : List T} : evs C (e :: es) ρ = (ev C e ρ).bind fun a => (evs C es a.2).bind fun b => some (a.1 :: b.1, b.2) := by
  simp only [evs]
  cases ev C e ρ with
  | none => rfl
  | some a =>
    obtain ⟨o, ρ1⟩ := a
    simp only [Option.bind_some]
    cases evs C es ρ1 with
    | none => rfl
    | some b => rfl
@[simp] theorem evOs_nil : evOs C [] ρ = some ([], ρ) := by simp only [evOs]
theorem evOs_cons {e : T} {es : List T} : evOs C (e :: es) ρ = match isNm e with
    | some i => (rdO ρ (.sl i)).bind fun _ => (evOs C es ρ).bind fun b => some (.sl i :: b.1, b.2)
    | none => (ev C e ρ).bind fun a => (evOs C es a.2).bind fun b => some (.tv a.1 :: b.1, b.2) := by
  simp only [evOs]
  cases isNm e with
  | some i =>
    simp only
    cases rdO ρ (.sl i) with
    | none => rfl
    | some a =>
      simp only [Option.bind_some]
      cases evOs C es ρ with
      | none => rfl
      | some b => rfl
  | none =>
    simp only
    cases ev C e ρ with
    | none => rfl
    | some a =>
      obtain ⟨o, ρ1⟩ := a
      simp only [Option.bind_some]
      cases evOs C es ρ1 with
      | none => rfl
      | some b => rfl
@[simp] theorem evOs_nm {i : Nat} {es : List T} : evOs C (.nm i :: es) ρ = (rdO ρ (.sl i)).bind fun _ => (evOs C es ρ).bind fun b => some (.sl i :: b.1, b.2) := by
  rw [evOs_cons]
  rfl
theorem evOs_tv {e : T} {es : List T} (h : isNm e = none) : evOs C (e :: es) ρ = (ev C e ρ).bind fun a => (evOs C es a.2).bind fun b => some (.tv a.1 :: b.1, b.2) := by
  rw [evOs_cons, h]
@[simp] theorem evOs_c {d : PyData} {es : List T} : evOs C (.c d :: es) ρ = (evOs C es ρ).bind fun b => some (.tv (.sh d) :: b.1, b.2) := by
  rw [evOs_tv rfl]
  simp only [ev, Option.bind_some]
@[simp] theorem evOs_op {k : OpK} {as : List T} {es : List T} : evOs C (.op k as :: es) ρ = (ev C (.op k as) ρ).bind fun a => (evOs C es a.2).bind fun b => some (.tv a.1 :: b.1, b.2) := evOs_tv rfl
@[simp] theorem evOs_tup {as : List T} {es : List T} : evOs C (.tup as :: es) ρ = (ev C (.tup as) ρ).bind fun a => (evOs C es a.2).bind fun b => some (.tv a.1 :: b.1, b.2) := evOs_tv rfl
@[simp] theorem evOs_lst {as : List T} {es : List T} : evOs C (.lst as :: es) ρ = (ev C (.lst as) ρ).bind fun a => (evOs C es a.2).bind fun b => some (.tv a.1 :: b.1, b.2) := evOs_tv rfl
@[simp] theorem evOs_call {f : Nat} {as : List T} {es : List T} : evOs C (.call f as :: es) ρ = (ev C (.call f as) ρ).bind fun a => (evOs C es a.2).bind fun b => some (.tv a.1 :: b.1, b.2) := evOs_tv rfl
@[simp] theorem evOs_callk {f : Nat} {as : List T} {pm : List Nat} {es : List T} : evOs C (.callk f as pm :: es) ρ = (ev C (.callk f as pm) ρ).bind fun a => (evOs C es a.2).bind fun b => some (.tv a.1 :: b.1, b.2) := evOs_tv rfl
@[simp] theorem evOs_lc {ws : List Nat} {tg : Tg} {ik : IK} {ies cs : List T} {e : T} {es : List T} : evOs C (.lc ws tg ik ies cs e :: es) ρ = (ev C (.lc ws tg ik ies cs e) ρ).bind fun a => (evOs C es a.2).bind fun b => some (.tv a.1 :: b.1, b.2) := evOs_tv rfl
@[simp] theorem evOs_ite {a b c : T} {es : List T} : evOs C (.ite a b c :: es) ρ = (ev C (.ite a b c) ρ).bind fun a => (evOs C es a.2).bind fun b => some (.tv a.1 :: b.1, b.2) := evOs_tv rfl
@[simp] theorem evOs_sl {a b c : List T} {es : List T} : evOs C (.sl a b c :: es) ρ = (ev C (.sl a b c) ρ).bind fun a => (evOs C es a.2).bind fun b => some (.tv a.1 :: b.1, b.2) := evOs_tv rfl
@[simp] theorem evOs_mth {k : OpK} {a : T} {b : List T} {es : List T} : evOs C (.mth k a b :: es) ρ = (ev C (.mth k a b) ρ).bind fun a => (evOs C es a.2).bind fun b => some (.tv a.1 :: b.1, b.2) := evOs_tv rfl
@[simp] theorem evOs_prj {a : T} {j : Nat} {es : List T} : evOs C (.prj a j :: es) ρ = (ev C (.prj a j) ρ).bind fun a => (evOs C es a.2).bind fun b => some (.tv a.1 :: b.1, b.2) := evOs_tv rfl

@[simp] theorem ev_c {d : PyData} : ev C (.c d) ρ = some (.sh d, ρ) := by simp only [ev]
@[simp] theorem ev_nm {i : Nat} : ev C (.nm i) ρ = rdV i ρ := by simp only [ev]
@[simp] theorem ev_mv {i : Nat} : ev C (.mv i) ρ = mvV i ρ := by simp only [ev]
def szd {α : Type} (n : Nat) (x : α) : Option α := if n ≤ sizeLine then some x else none
theorem szd_ok {α : Type} {n : Nat} {x : α} (h : n ≤ sizeLine) : szd n x = some x := if_pos h
theorem sz_le {n : Nat} (h : n ≤ 1000000) : n ≤ sizeLine := by
  rw [sizeLine_eq]
  omega
@[simp] theorem szd0 {α : Type} {x : α} : szd 0 x = some x := szd_ok (sz_le (by decide))
@[simp] theorem szd1 {α : Type} {x : α} : szd 1 x = some x := szd_ok (sz_le (by decide))
@[simp] theorem szd2 {α : Type} {x : α} : szd 2 x = some x := szd_ok (sz_le (by decide))
@[simp] theorem szd3 {α : Type} {x : α} : szd 3 x = some x := szd_ok (sz_le (by decide))
@[simp] theorem szd4 {α : Type} {x : α} : szd 4 x = some x := szd_ok (sz_le (by decide))
@[simp] theorem szd5 {α : Type} {x : α} : szd 5 x = some x := szd_ok (sz_le (by decide))
@[simp] theorem ev_tup {es : List T} : ev C (.tup es) ρ = (evs C es ρ).bind fun a => szd a.1.length (.sh (.tuple (O.dL a.1)), a.2) := by
  simp only [ev]
  cases evs C es ρ with
  | none => rfl
  | some a => rfl
@[simp] theorem ev_tupo {es : List T} : ev C (.tupo es) ρ = (evs C es ρ).bind fun a => szd a.1.length (.ot a.1, a.2) := by
  simp only [ev]
  cases evs C es ρ with
  | none => rfl
  | some a => rfl
@[simp] theorem ev_lst {es : List T} : ev C (.lst es) ρ = (evs C es ρ).bind fun a => szd a.1.length (olOf (O.dL a.1), a.2) := by
  simp only [ev]
  cases evs C es ρ with
  | none => rfl
  | some a => rfl
@[simp] theorem ev_op {k : OpK} {es : List T} : ev C (.op k es) ρ = (evOs C es ρ).bind fun a => (rdOs a.2 a.1).bind fun os => (prim k os).bind fun o => some (o, a.2) := by
  simp only [ev]
  cases evOs C es ρ with
  | none => rfl
  | some a =>
    obtain ⟨xs, ρ1⟩ := a
    simp only [Option.bind_some]
    cases rdOs ρ1 xs with
    | none => rfl
    | some os =>
      simp only [Option.bind_some]
      cases prim k os <;> rfl
/-- what a value of truth leads to -/
def onB {α : Type} (x : Option (O × Env)) (f g : Env → Option α) : Option α := match x with
  | some (.sh (.bool true), ρ) => f ρ
  | some (.sh (.bool false), ρ) => g ρ
  | _ => none
@[simp] theorem onB_t {α : Type} {f g : Env → Option α} : onB (some (.sh (.bool true), ρ)) f g = f ρ := rfl
@[simp] theorem onB_f {α : Type} {f g : Env → Option α} : onB (some (.sh (.bool false), ρ)) f g = g ρ := rfl
theorem onB_b {α : Type} {f g : Env → Option α} {b : Bool} : onB (some (.sh (.bool b), ρ)) f g = if b then f ρ else g ρ := by cases b <;> rfl
@[simp] theorem ev_and {a b : T} : ev C (.and2 a b) ρ = onB (ev C a ρ) (fun ρ => ev C b ρ) fun ρ => some (.sh (.bool false), ρ) := by
  simp only [ev]
  unfold onB
  split <;> simp_all
@[simp] theorem ev_or {a b : T} : ev C (.or2 a b) ρ = onB (ev C a ρ) (fun ρ => some (.sh (.bool true), ρ)) fun ρ => ev C b ρ := by
  simp only [ev]
  unfold onB
  split <;> simp_all
@[simp] theorem ev_ite {a b c : T} : ev C (.ite c a b) ρ = onB (ev C c ρ) (fun ρ => ev C a ρ) fun ρ => ev C b ρ := by
  simp only [ev]
  unfold onB
  split <;> simp_all
@[simp] theorem ev_tn {a : T} : ev C (.tn a) ρ = onB (ev C a ρ) (fun ρ => some (.sh (.bool false), ρ)) fun ρ => some (.sh (.bool true), ρ) := by
  simp only [ev]
  unfold onB
  split <;> simp_all
  · rename_i b ρ1 h
    cases b <;> simp_all <;> rfl
theorem ev_tt {a : T} (h : isNm a = none) : ev C (.tt a) ρ = (ev C a ρ).bind fun q => (rdOs q.2 [.tv q.1]).bind fun os => match os with
    | [o] => (truth o).bind fun b => some (shB b, q.2)
    | _ => none := by
  simp only [ev, h]
  cases ev C a ρ with
  | none => rfl
  | some q =>
    obtain ⟨o, ρ1⟩ := q
    simp only [Option.bind_some]
    cases rdOs ρ1 [.tv o] with
    | none => rfl
    | some os =>
      simp only [Option.bind_some]
      match os with
      | [o] =>
        simp only
        cases truth o <;> rfl
      | [] => rfl
      | _ :: _ :: _ => rfl
@[simp] theorem ev_tt_call {f : Nat} {es : List T} : ev C (.tt (.call f es)) ρ = (ev C (.call f es) ρ).bind fun q => (rdOs q.2 [.tv q.1]).bind fun os => match os with
    | [o] => (truth o).bind fun b => some (shB b, q.2)
    | _ => none := ev_tt rfl
@[simp] theorem ev_tt_op {f : OpK} {es : List T} : ev C (.tt (.op f es)) ρ = (ev C (.op f es) ρ).bind fun q => (rdOs q.2 [.tv q.1]).bind fun os => match os with
    | [o] => (truth o).bind fun b => some (shB b, q.2)
    | _ => none := ev_tt rfl
@[simp] theorem ev_call {f : Nat} {es : List T} : ev C (.call f es) ρ = (evOs C es ρ).bind fun a => (lend a.1 a.2).bind fun b => (C f b.1).bind fun r => some (r.1, back a.1 r.2 b.2) := by
  simp only [ev]
  cases evOs C es ρ with
  | none => rfl
  | some a =>
    obtain ⟨xs, ρ1⟩ := a
    simp only [Option.bind_some]
    cases lend xs ρ1 with
    | none => rfl
    | some b =>
      obtain ⟨os, ρ2⟩ := b
      simp only [Option.bind_some]
      cases C f os with
      | none => rfl
      | some r => rfl
@[simp] theorem ev_callk {f : Nat} {es : List T} {pm : List Nat} : ev C (.callk f es pm) ρ = (evOs C es ρ).bind fun a => (lend (permL pm a.1) a.2).bind fun b => (C f b.1).bind fun r => some (r.1, back (permL pm a.1) r.2 b.2) := by
  simp only [ev]
  cases evOs C es ρ with
  | none => rfl
  | some a =>
    obtain ⟨xs, ρ1⟩ := a
    simp only [Option.bind_some]
    cases lend (permL pm xs) ρ1 with
    | none => rfl
    | some b =>
      obtain ⟨os, ρ2⟩ := b
      simp only [Option.bind_some]
      cases C f os with
      | none => rfl
      | some r => rfl
@[simp] theorem rdO_tv {o : O} : rdO ρ (.tv o) = some o := rfl
@[simp] theorem rdOs_nil : rdOs ρ [] = some [] := rfl
@[simp] theorem rdOs_cons {x : Opd} {xs : List Opd} : rdOs ρ (x :: xs) = (rdO ρ x).bind fun o => (rdOs ρ xs).bind fun os => if o.isFlat then some (o :: os) else none := by
  simp only [rdOs]
  cases rdO ρ x with
  | none => rfl
  | some o =>
    cases rdOs ρ xs with
    | none => rfl
    | some os => rfl
@[simp] theorem flat_sh {d : PyData} : (O.sh d).isFlat = true := rfl
@[simp] theorem flat_ol {ds : List PyData} : (olOf ds).isFlat = true := by
  show (allSh (ds.map O.sh)).isSome = true
  rw [allSh_map]
  rfl
@[simp] theorem list_ol {ds : List PyData} : (olOf ds).list? = some ds := allSh_map ds
@[simp] theorem list_sh {ds : List PyData} : (O.sh (.list ds)).list? = some ds := rfl
@[simp] theorem seq_ol {ds : List PyData} : (olOf ds).seq? = some ds := by
  unfold O.seq?
  rw [list_ol]
@[simp] theorem seq_sh {ds : List PyData} : (O.sh (.list ds)).seq? = some ds := rfl
@[simp] theorem seq_tp {ds : List PyData} : (O.sh (.tuple ds)).seq? = some ds := rfl
@[simp] theorem d_ol {ds : List PyData} : (olOf ds).d = .list ds := by
  show PyData.list (O.dL (ds.map O.sh)) = _
  rw [allSh_dL (allSh_map ds)]
@[simp] theorem d_sh {d : PyData} : (O.sh d).d = d := rfl
@[simp] theorem dL_nil : O.dL [] = [] := rfl
@[simp] theorem dL_cons {o : O} {os : List O} : O.dL (o :: os) = o.d :: O.dL os := rfl

/-! ### statements -/
def onO {α : Type} (x : Option (O × Env)) (f : O → Env → Option α) : Option α := x.bind fun a => f a.1 a.2
@[simp] theorem evSs_nil : evSs C [] ρ = some (.nx ρ) := by simp only [evSs]
/-- then -/
def thenS (x : Option Out) (f : Env → Option Out) : Option Out := match x with
  | some (.nx ρ1) => f ρ1
  | r => r
@[simp] theorem thenS_nx {f : Env → Option Out} : thenS (some (.nx ρ)) f = f ρ := rfl
@[simp] theorem thenS_rt {o : O} {f : Env → Option Out} : thenS (some (.rt o ρ)) f = some (.rt o ρ) := rfl
@[simp] theorem thenS_ct {f : Env → Option Out} : thenS (some (.ct ρ)) f = some (.ct ρ) := rfl
@[simp] theorem thenS_bk {f : Env → Option Out} : thenS (some (.bk ρ)) f = some (.bk ρ) := rfl
@[simp] theorem evSs_cons {s : S} {ss : List S} : evSs C (s :: ss) ρ = thenS (evS C s ρ) fun ρ => evSs C ss ρ := by
  simp only [evSs]
  unfold thenS
  split <;> simp_all
@[simp] theorem evS_ret {e : T} : evS C (.ret e) ρ = (ev C e ρ).bind fun a => some (.rt a.1 a.2) := by
  simp only [evS]
  cases ev C e ρ <;> rfl
@[simp] theorem evS_ex {e : T} : evS C (.ex e) ρ = (ev C e ρ).bind fun a => some (.nx a.2) := by
  simp only [evS]
  cases ev C e ρ <;> rfl
@[simp] theorem evS_asg {t : Ta} {e : T} : evS C (.asg t e) ρ = (ev C e ρ).bind fun a => (bindTa C t a.1 a.2).bind fun ρ2 => some (.nx ρ2) := by
  simp only [evS]
  cases ev C e ρ with
  | none => rfl
  | some a =>
    obtain ⟨o, ρ1⟩ := a
    simp only [Option.bind_some]
    cases bindTa C t o ρ1 <;> rfl
@[simp] theorem evS_par {is : List Nat} {es : List T} : evS C (.par is es) ρ = (evs C es ρ).bind fun a => if is.all (fun i => decide (i < a.2.length)) then some (.nx (putAll is a.1 a.2)) else none := by
  simp only [evS]
  cases evs C es ρ <;> rfl
@[simp] theorem evS_ite {c : T} {a b : List S} : evS C (.ite c a b) ρ = onB (ev C c ρ) (fun ρ => evSs C a ρ) fun ρ => evSs C b ρ := by
  simp only [evS]
  unfold onB
  split <;> simp_all
@[simp] theorem evS_pass : evS C .pass ρ = some (.nx ρ) := by simp only [evS]
@[simp] theorem evS_brk : evS C .brk ρ = some (.bk ρ) := by simp only [evS]
@[simp] theorem evS_cont : evS C .cont ρ = some (.ct ρ) := by simp only [evS]
@[simp] theorem bind_nm {i : Nat} {o : O} : bindTa C (.nm i) o ρ = if i < ρ.length then some (ρ.set i (some o)) else none := by simp only [bindTa]
theorem evS_fr {tg : Tg} {ik : IK} {ies : List T} {b : List S} : evS C (.fr tg ik ies b) ρ = (evs C ies ρ).bind fun a => (walk ik (a.1.map fun o => .sh o.d)).bind fun xs => frGo (fun x ρ2 => (bindTg tg x ρ2).bind fun ρ3 => evSs C b ρ3) xs a.2 := by
  simp only [evS]
  cases evs C ies ρ with
  | none => rfl
  | some a =>
    obtain ⟨os, ρ1⟩ := a
    simp only [Option.bind_some]
    cases walk ik (os.map fun o => .sh o.d) with
    | none => rfl
    | some xs =>
      refine congrArg (fun f => frGo f xs ρ1) ?_
      funext x ρ2
      cases bindTg tg x ρ2 <;> rfl
/-- one turn of a comprehension -/
def lcT (C : Cal) (ws : List Nat) (tg : Tg) (cs : List T) (e : T) (x : O) (ρ : Env) : Option (Option O × Env) := (bindTg tg x ρ).bind fun ρ3 => (evBs C cs ρ3).bind fun q => if q.1 then (ev C e q.2).bind fun r => some (some (.sh r.1.d), forget r.2 ws) else some (none, forget q.2 ws)
theorem ev_lc {ws : List Nat} {tg : Tg} {ik : IK} {ies cs : List T} {e : T} : ev C (.lc ws tg ik ies cs e) ρ = (evs C ies ρ).bind fun a => (walk ik (a.1.map fun o => .sh o.d)).bind fun xs => (lcGo (lcT C ws tg cs e) xs [] (forget a.2 ws)).bind fun r => some (.ol r.1, forget r.2 ws) := by
  simp only [ev]
  cases evs C ies ρ with
  | none => rfl
  | some a =>
    obtain ⟨os, ρ1⟩ := a
    simp only [Option.bind_some]
    cases walk ik (os.map fun o => .sh o.d) with
    | none => rfl
    | some xs =>
      have key : ∀ F : O → Env → Option (Option O × Env), F = lcT C ws tg cs e → (match lcGo F xs [] (forget ρ1 ws) with
          | some (os, ρ2) => some (O.ol os, forget ρ2 ws)
          | none => none) = (lcGo (lcT C ws tg cs e) xs [] (forget ρ1 ws)).bind fun r => some (.ol r.1, forget r.2 ws) := fun F h => by
        rw [h]
        cases lcGo (lcT C ws tg cs e) xs [] (forget ρ1 ws) <;> rfl
      refine key _ ?_
      funext x ρ2
      unfold lcT
      cases bindTg tg x ρ2 with
      | none => rfl
      | some ρ3 =>
        simp only [Option.bind_some]
        cases evBs C cs ρ3 with
        | none => rfl
        | some q =>
          obtain ⟨b, ρ4⟩ := q
          cases b with
          | false => rfl
          | true =>
            simp only [Option.bind_some, if_true]
            cases ev C e ρ4 <;> rfl
@[simp] theorem evBs_nil : evBs C [] ρ = some (true, ρ) := by simp only [evBs]
@[simp] theorem evBs_cons {e : T} {es : List T} : evBs C (e :: es) ρ = onB (ev C e ρ) (fun ρ => evBs C es ρ) fun ρ => some (false, ρ) := by
  simp only [evBs]
  unfold onB
  split <;> simp_all
/-- a comprehension whose turns leave the slots as they were -/
theorem lcGo_map {f : O → Env → Option (Option O × Env)} {xs : List O} {ρ : Env} {g : O → Option O} (h : ∀ x ∈ xs, f x ρ = some (g x, ρ)) : ∀ {acc : List O}, acc.length + xs.length ≤ 1000000 → lcGo f xs acc ρ = some (acc ++ xs.filterMap g, ρ) := by
  induction xs with
  | nil =>
    intro acc _
    simp [lcGo]
  | cons x xs ih =>
    intro acc hl
    have hx := h x List.mem_cons_self
    have ih := fun {acc} => ih (fun y hy => h y (List.mem_cons_of_mem _ hy)) (acc := acc)
    simp only [List.length_cons] at hl
    cases q : g x with
    | none =>
      rw [q] at hx
      simp only [lcGo, hx, List.filterMap_cons, q]
      exact ih (by omega)
    | some o =>
      rw [q] at hx
      simp only [lcGo, hx, List.filterMap_cons, q]
      rw [if_pos (Nat.lt_of_lt_of_le (show acc.length < acc.length + 1 by omega) (sz_le (by omega)))]
      rw [ih (by rw [List.length_append, List.length_singleton]; omega), List.append_assoc]
      rfl
/-- a for whose turns go on -/
theorem frGo_inv {f : O → Env → Option Out} {xs : List O} {ρ : Nat → Env} (h : ∀ i x, xs[i]? = some x → f x (ρ i) = some (.nx (ρ (i + 1))) ∨ f x (ρ i) = some (.ct (ρ (i + 1)))) : frGo f xs (ρ 0) = some (.nx (ρ xs.length)) := by
  induction xs generalizing ρ with
  | nil => rfl
  | cons x xs ih =>
    have h0 := h 0 x rfl
    have h1 := ih (ρ := fun i => ρ (i + 1)) fun i y hy => h (i + 1) y (by simpa using hy)
    rcases h0 with e | e <;> (simp only [frGo, e]; exact h1)
end
/-- a def's end -/
theorem run_rt {P : List Fd} {k f : Nat} {fd : Fd} {os os2 : List O} {o : O} {ρ : Env} (hf : P[f]? = some fd) (hl : os.length = fd.np) (hb : evSs (runF P k) fd.body (startAll 0 fd.asgd os ++ List.replicate (fd.ns - fd.np) none) = some (.rt o ρ))
    (hh : heldAll 0 fd.asgd os ρ = some os2) : runF P (k + 1) f os = some (o, os2) := by
  simp only [runF, hf, hl, if_true, hb, hh, Option.map_some]
theorem run_nx {P : List Fd} {k f : Nat} {fd : Fd} {os os2 : List O} {ρ : Env} (hf : P[f]? = some fd) (hl : os.length = fd.np) (hb : evSs (runF P k) fd.body (startAll 0 fd.asgd os ++ List.replicate (fd.ns - fd.np) none) = some (.nx ρ))
    (hh : heldAll 0 fd.asgd os ρ = some os2) : runF P (k + 1) f os = some (.sh .none, os2) := by
  simp only [runF, hf, hl, if_true, hb, hh, Option.map_some]
end Qv
end
section
set_option Elab.async false
set_option linter.all false
set_option maxRecDepth 100000
set_option maxHeartbeats 2000000
/-! Q24: what all laws' mathematics uses: steps, comprehensions, draws, bounds of what is shown. -/
namespace Qv
open PySem PySem.Spec PyProof.Rows L2

theorem posK {k n : Nat} (h : n + 1 ≤ k) : ∃ j, k = j + 1 ∧ n ≤ j := ⟨k - 1, by omega, by omega⟩
theorem seq1 {C : Cal} {s : S} {ss : List S} {ρ ρ1 : Qv.Env} (h : evS C s ρ = some (.nx ρ1)) : evSs C (s :: ss) ρ = evSs C ss ρ1 := by
  rw [evSs_cons, h, thenS_nx]
theorem seqR {C : Cal} {s : S} {ss : List S} {ρ ρ1 : Qv.Env} {o : O} (h : evS C s ρ = some (.rt o ρ1)) : evSs C (s :: ss) ρ = some (.rt o ρ1) := by
  rw [evSs_cons, h]
  rfl
theorem if_tt {C : Cal} {c : T} {a b : List S} {ρ ρ1 : Qv.Env} (h : ev C c ρ = some (.sh (.bool true), ρ1)) : evS C (.ite c a b) ρ = evSs C a ρ1 := by
  rw [evS_ite, h, onB_t]
theorem if_ff {C : Cal} {c : T} {a b : List S} {ρ ρ1 : Qv.Env} (h : ev C c ρ = some (.sh (.bool false), ρ1)) : evS C (.ite c a b) ρ = evSs C b ρ1 := by
  rw [evS_ite, h, onB_f]
theorem item_at {o : O} {ds : List PyData} {i : Nat} {d : PyData} (hs : o.seq? = some ds) (h : ds[i]? = some d) : pItem [o, .sh (.int (i : Int))] = some (.sh d) := by
  have key : (match o.seq? with
    | some ds => (atI ds (i : Int)).map O.sh
    | none => none) = some (.sh d) := by
    rw [hs]
    simp [atI_nat h]
  cases o with
  | sh e =>
    cases e with
    | str z => cases hs
    | _ => exact key
  | _ => exact key
theorem ext_of {C : Cal} {i : Nat} {e : T} {ρ ρ1 : Qv.Env} {os0 os : List O} {v : O} {ds : List PyData} (hn : isNm e = none) (h0 : ρ[i]? = some (some (.ol os0))) (h1 : ev C e ρ = some (v, ρ1)) (h2 : ρ1[i]? = some (some (.ol os))) (h3 : v.isFlat = true) (h4 : v.list? = some ds)
    (h5 : os.length + ds.length ≤ sizeLine) : ev C (.ext i [e]) ρ = some (.sh .none, ρ1.set i (some (.ol (os ++ ds.map O.sh)))) := by
  simp only [ev, rdO, h0, evOs, hn, h1, h2, rdOs, h3, if_true, h4, h5]
theorem app_of {C : Cal} {i : Nat} {e : T} {ρ ρ1 : Qv.Env} {os0 os : List O} {v : O} (h0 : ρ[i]? = some (some (.ol os0))) (h1 : ev C e ρ = some (v, ρ1)) (h2 : ρ1[i]? = some (some (.ol os))) (h5 : os.length < sizeLine) :
    ev C (.app i e) ρ = some (.sh .none, ρ1.set i (some (.ol (os ++ [.sh v.d])))) := by
  simp only [ev, rdO, h0, h1, h2, h5, if_true]
theorem len_ol (ds : List PyData) : pLen (olOf ds) = some (shI ds.length) := by
  show (olOf ds).seq?.map (fun ds => shI ds.length) = _
  rw [seq_ol]
  rfl
theorem fm_const {α β : Type} (b : β) : ∀ xs : List α, xs.filterMap (fun _ => some b) = List.replicate xs.length b
  | [] => rfl
  | x :: xs => by simp [List.filterMap_cons, fm_const b xs, List.replicate_succ]
theorem fm_some {α β : Type} (f : α → β) : ∀ xs : List α, xs.filterMap (fun x => some (f x)) = xs.map f
  | [] => rfl
  | x :: xs => by simp [List.filterMap_cons, fm_some f xs]
theorem lcGo_mapA {α : Type} {f : O → Qv.Env → Option (Option O × Qv.Env)} {ρ : Qv.Env} {F : α → O} {g : α → Option O} : ∀ {es : List α} (h : ∀ e ∈ es, f (F e) ρ = some (g e, ρ)) {acc : List O}, acc.length + es.length ≤ 1000000 → lcGo f (es.map F) acc ρ = some (acc ++ es.filterMap g, ρ)
  | [], _, acc, _ => by simp [lcGo]
  | x :: xs, h, acc, hl => by
    have hx := h x List.mem_cons_self
    simp only [List.length_cons] at hl
    have ih := fun acc q => lcGo_mapA (es := xs) (fun y hy => h y (List.mem_cons_of_mem _ hy)) (acc := acc) q
    cases q : g x with
    | none =>
      rw [q] at hx
      simp only [List.map_cons, lcGo, hx, List.filterMap_cons, q]
      exact ih _ (by omega)
    | some o =>
      rw [q] at hx
      simp only [List.map_cons, lcGo, hx, List.filterMap_cons, q]
      rw [if_pos (Nat.lt_of_lt_of_le (show acc.length < acc.length + 1 by omega) (sz_le (by omega)))]
      rw [ih _ (by rw [List.length_append, List.length_singleton]; omega), List.append_assoc]
      rfl
/-- a comprehension over what F shows, its turns leaving the slots -/
theorem lc_ofA {α : Type} {C : Cal} {ws : List Nat} {tg : Tg} {ik : IK} {ies cs : List T} {e : T} {ρ ρ1 : Qv.Env} {os : List O} (F : α → O) (g : α → Option O) (es : List α) (h1 : evs C ies ρ = some (os, ρ1)) (h2 : walk ik (os.map fun o => .sh o.d) = some (es.map F))
    (h3 : ∀ x ∈ es, lcT C ws tg cs e (F x) (forget ρ1 ws) = some (g x, forget ρ1 ws)) (hl : es.length ≤ 1000000) : ev C (.lc ws tg ik ies cs e) ρ = some (.ol (es.filterMap g), forget (forget ρ1 ws) ws) := by
  rw [ev_lc, h1]
  simp only [Option.bind_some, h2]
  rw [lcGo_mapA h3 (by simpa using hl)]
  rfl
theorem lc_any {C : Cal} {ws : List Nat} {tg : Tg} {ik : IK} {ies cs : List Qv.T} {e : Qv.T} {ρ ρ1 ρ2 : Qv.Env} {os xs acc : List O} (h1 : evs C ies ρ = some (os, ρ1)) (h2 : walk ik (os.map fun o => .sh o.d) = some xs) (h3 : lcGo (lcT C ws tg cs e) xs [] (forget ρ1 ws) = some (acc, ρ2)) :
    ev C (.lc ws tg ik ies cs e) ρ = some (.ol acc, forget ρ2 ws) := by
  rw [ev_lc, h1]
  simp only [Option.bind_some, h2, h3]
theorem ol_bools (bs : List Bool) : O.ol (bs.map shB) = olOf (bs.map .bool) := by
  unfold olOf
  rw [List.map_map]
  rfl
theorem allBl_map : ∀ bs : List Bool, allBl (bs.map .bool) = some bs
  | [] => rfl
  | b :: bs => by simp [allBl, allBl_map bs]
theorem pAll_bools (bs : List Bool) : pAll (olOf (bs.map .bool)) = some (shB (bs.all id)) := by
  unfold pAll
  rw [list_ol]
  simp [allBl_map]
theorem walk_n {n : Nat} (hn : n ≤ 1000000) : walk .rng [.sh (O.sh (.int (n : Int))).d] = some ((List.range n).map fun (i : Nat) => shI (0 + (i : Int))) := by
  have c : -(2 ^ 62) ≤ (n : Int) ∧ (n : Int) < 2 ^ 62 := by omega
  simp only [walk, d_sh, gd]
  rw [decide_eq_true c]
  simp

/-! ### draws -/
abbrev pot (x y : Int) : O := .ol [shI x, shI y]
structure PotOk (x y : Int) : Prop where
  a : 0 ≤ x
  b : 0 ≤ y
  c : y ≤ 4294967296
theorem pot0 {x y : Int} : pItem [pot x y, .sh (.int 0)] = some (shI x) := rfl
theorem pot1 {x y : Int} : pItem [pot x y, .sh (.int 1)] = some (shI y) := rfl
theorem potF {x y : Int} : (pot x y).isFlat = true := rfl
theorem st_pot0 {C : Cal} {x y z : Int} {ρ : Qv.Env} (h : ρ[0]? = some (some (pot x y))) : bindTa C (.st 0 (.c (.int 0))) (.sh (.int z)) ρ = some (ρ.set 0 (some (pot z y))) := by
  simp only [bindTa, rdO, h, evOs_c, evOs_nil, Option.bind_some, rdOs_cons, rdOs_nil, rdO_tv, flat_sh, if_true]
  rfl
theorem st_pot1 {C : Cal} {x y z : Int} {ρ : Qv.Env} (h : ρ[0]? = some (some (pot x y))) : bindTa C (.st 0 (.c (.int 1))) (.sh (.int z)) ρ = some (ρ.set 0 (some (pot x z))) := by
  simp only [bindTa, rdO, h, evOs_c, evOs_nil, Option.bind_some, rdOs_cons, rdOs_nil, rdO_tv, flat_sh, if_true]
  rfl
/-- the def that draws -/
def fDraw (a b m q d : Int) : Fd := ⟨2, 3, [], [.ite (.op .gt [.op .item [.nm 0, .c (.int 0)], .c (.int 0)]) [.asg (.tp [.st 0 (.c (.int 0)), .nm 2]) (.op .divmod [.op .item [.nm 0, .c (.int 0)], .nm 1]),
    .ret (.mv 2)] [],
    .asg (.st 0 (.c (.int 1))) (.op .mod [.op .int1 [.op .add [.op .mul [.op .item [.nm 0, .c (.int 1)], .c (.int a)], .c (.int b)]], .c (.int m)]),
    .ret (.op .mod [.op .int1 [.op .fdiv [.op .mod [.op .int1 [.op .mul [.op .item [.nm 0, .c (.int 1)], .op .item [.nm 0, .c (.int 1)]]], .c (.int q)], .c (.int d)]], .nm 1])]⟩
structure DrawOk (a b m q d : Int) : Prop where
  m0 : 0 < m
  m1 : m ≤ 4294967296
  q0 : 0 < q
  d0 : 0 < d
  d1 : d < 1073741824
theorem draw_ev {C : Cal} {a b m q d : Int} (H : DrawOk a b m q d) {x y : Int} (hp : PotOk x y) {many : Nat} (h1 : 1 ≤ many) (h2 : many ≤ 100000) :
    ∃ (r : Nat) (x' y' : Int) (s : Option O), r < many ∧ PotOk x' y' ∧ evSs C (fDraw a b m q d).body [some (pot x y), some (.sh (.int many)), none] = some (.rt (.sh (.int r)) [some (pot x' y'), some (.sh (.int many)), s]) := by
  obtain ⟨p1, p2, p3⟩ := hp
  obtain ⟨g1, g2, g3, g4, g5⟩ := H
  have i0 : ev C (.op .item [.nm 0, .c (.int 0)]) [some (pot x y), some (.sh (.int many)), none] = some (shI x, [some (pot x y), some (.sh (.int many)), none]) := by
    simp [rdO, prim, pot0, potF]
  have c : ev C (.op .gt [.op .item [.nm 0, .c (.int 0)], .c (.int 0)]) [some (pot x y), some (.sh (.int many)), none] = some (.sh (.bool (decide (0 < x))), [some (pot x y), some (.sh (.int many)), none]) := by
    rw [ev_op, evOs_op, i0]
    simp [prim, pCmp, shB, shI]
  by_cases hx : 0 < x
  · refine ⟨(x % (many : Int)).toNat, x / (many : Int), y, none, ?_, ⟨Int.ediv_nonneg p1 (by omega), p2, p3⟩, ?_⟩
    · have := Int.emod_lt_of_pos x (show (0 : Int) < many by omega)
      have := Int.emod_nonneg x (show (many : Int) ≠ 0 by omega)
      omega
    · have e0 : ((x % (many : Int)).toNat : Int) = x % (many : Int) := by
        have := Int.emod_nonneg x (show (many : Int) ≠ 0 by omega)
        omega
      rw [e0]
      have dm : ev C (.op .divmod [.op .item [.nm 0, .c (.int 0)], .nm 1]) [some (pot x y), some (.sh (.int many)), none] = some (.sh (.tuple [.int (x / (many : Int)), .int (x % (many : Int))]), [some (pot x y), some (.sh (.int many)), none]) := by
        have g : decide ((0 : Int) < many ∧ (many : Int) < 1073741824) = true := decide_eq_true ⟨by omega, by omega⟩
        rw [ev_op, evOs_op, i0]
        simp only [Option.bind_some, evOs_nm, evOs_nil, rdO, List.getElem?_cons_succ, List.getElem?_cons_zero, rdOs_cons, rdOs_nil, rdO_tv, flat_sh, if_true, shI, prim, i2, gd, g]
      unfold fDraw
      rw [evSs_cons, evS_ite, c, decide_eq_true hx, onB_t]
      rw [evSs_cons, evS_asg, dm]
      simp only [Option.bind_some]
      have bt : bindTa C (.tp [.st 0 (.c (.int 0)), .nm 2]) (.sh (.tuple [.int (x / (many : Int)), .int (x % (many : Int))])) [some (pot x y), some (.sh (.int many)), none] = some [some (pot (x / (many : Int)) y), some (.sh (.int many)), some (.sh (.int (x % (many : Int))))] := by
        simp only [bindTa, bindTas, List.map_cons, List.map_nil]
        have := st_pot0 (C := C) (x := x) (y := y) (z := x / (many : Int)) (ρ := [some (pot x y), some (.sh (.int many)), none]) rfl
        simp only [bindTa] at this
        rw [this]
        simp
      rw [bt]
      simp [mvV]
  · obtain ⟨y2, hy2⟩ : ∃ y2 : Int, (y * a + b).fmod m = y2 := ⟨_, rfl⟩
    have b1 : 0 ≤ y2 := hy2 ▸ Int.fmod_nonneg_of_pos _ (by omega)
    have b2 : y2 < m := hy2 ▸ Int.fmod_lt_of_pos _ (by omega)
    obtain ⟨r, hr⟩ : ∃ r : Int, (((y2 * y2).fmod q).fdiv d).fmod (many : Int) = r := ⟨_, rfl⟩
    have r1 : 0 ≤ r := hr ▸ Int.fmod_nonneg_of_pos _ (by omega)
    have r2 : r < many := hr ▸ Int.fmod_lt_of_pos _ (by omega)
    refine ⟨r.toNat, x, y2, none, by omega, ⟨p1, b1, by omega⟩, ?_⟩
    rw [show ((r.toNat : Nat) : Int) = r by omega]
    unfold fDraw
    rw [evSs_cons, evS_ite, c, decide_eq_false hx, onB_f, evSs_nil, thenS_nx]
    have i1 : ∀ z : Int, ev C (.op .item [.nm 0, .c (.int 1)]) [some (pot x z), some (.sh (.int many)), none] = some (.sh (.int z), [some (pot x z), some (.sh (.int many)), none]) := fun z => by
      simp [rdO, prim, pot1, potF, shI]
    have m1 : decide ((-(2 ^ 64) < y ∧ y < 2 ^ 64) ∨ (-(2 ^ 64) < a ∧ a < 2 ^ 64)) = true := decide_eq_true (.inl ⟨by omega, by omega⟩)
    have m0 : ¬ m = 0 := by omega
    have q0 : ¬ q = 0 := by omega
    have d0 : ¬ d = 0 := by omega
    have d1 : d.natAbs < 1073741824 := by omega
    have e1 : ev C (.op .mod [.op .int1 [.op .add [.op .mul [.op .item [.nm 0, .c (.int 1)], .c (.int a)], .c (.int b)]], .c (.int m)]) [some (pot x y), some (.sh (.int many)), none] = some (.sh (.int y2), [some (pot x y), some (.sh (.int many)), none]) := by
      have a1 : ev C (.op .mul [.op .item [.nm 0, .c (.int 1)], .c (.int a)]) [some (pot x y), some (.sh (.int many)), none] = some (.sh (.int (y * a)), [some (pot x y), some (.sh (.int many)), none]) := by
        rw [ev_op, evOs_op, i1]
        simp only [Option.bind_some, evOs_c, evOs_nil, rdOs_cons, rdOs_nil, rdO_tv, flat_sh, if_true, prim, pMul, gd, m1, shI]
      rw [ev_op, evOs_op, ev_op, evOs_op, ev_op, evOs_op, a1]
      simp [prim, pAdd, u1, pInt, i2, gd, shI, hy2, m0]
    refine (seq1 (ρ1 := [some (pot x y2), some (.sh (.int many)), none]) ?_).trans ?_
    · rw [evS_asg, e1]
      simp only [Option.bind_some]
      rw [st_pot1 (x := x) (y := y) (z := y2) rfl]
      rfl
    · have m2 : decide ((-(2 ^ 64) < y2 ∧ y2 < 2 ^ 64) ∨ (-(2 ^ 64) < y2 ∧ y2 < 2 ^ 64)) = true := decide_eq_true (.inl ⟨by omega, by omega⟩)
      have a1 : ev C (.op .mul [.op .item [.nm 0, .c (.int 1)], .op .item [.nm 0, .c (.int 1)]]) [some (pot x y2), some (.sh (.int many)), none] = some (.sh (.int (y2 * y2)), [some (pot x y2), some (.sh (.int many)), none]) := by
        rw [ev_op, evOs_op, i1]
        simp only [Option.bind_some]
        rw [evOs_op, i1]
        simp only [Option.bind_some, evOs_nil, rdOs_cons, rdOs_nil, rdO_tv, flat_sh, if_true, prim, pMul, gd, m2, shI]
      have e2 : ev C (.op .mod [.op .int1 [.op .fdiv [.op .mod [.op .int1 [.op .mul [.op .item [.nm 0, .c (.int 1)], .op .item [.nm 0, .c (.int 1)]]], .c (.int q)], .c (.int d)]], .nm 1]) [some (pot x y2), some (.sh (.int many)), none] = some (.sh (.int r), [some (pot x y2), some (.sh (.int many)), none]) := by
        have nz : (many : Int) ≠ 0 := by omega
        rw [ev_op, evOs_op, ev_op, evOs_op, ev_op, evOs_op, ev_op, evOs_op, ev_op, evOs_op, a1]
        have g3 : ¬ many = 0 := by omega
        simp [rdO, prim, u1, pInt, i2, gd, shI, g3, hr, q0, d0, d1]
      rw [evSs_cons, evS_ret, e2]
      rfl
/-- what drawing gives, as calls see it -/
structure DrawC (C : Cal) (f : Nat) : Prop where
  run : ∀ (x y : Int) (many : Nat), PotOk x y → 1 ≤ many → many ≤ 100000 → ∃ (r : Nat) (x' y' : Int), r < many ∧ PotOk x' y' ∧ C f [pot x y, .sh (.int many)] = some (.sh (.int r), [pot x' y', .sh (.int many)])
theorem draw_c {P : List Fd} {f : Nat} {a b m q d : Int} (hf : P[f]? = some (fDraw a b m q d)) (H : DrawOk a b m q d) {k : Nat} (h : 1 ≤ k) : DrawC (runF P k) f := ⟨fun x y many hp h1 h2 => by
  obtain ⟨k, rfl, _⟩ := posK h
  obtain ⟨r, x', y', s, hr, hp', e⟩ := draw_ev (C := runF P k) H hp h1 h2
  exact ⟨r, x', y', hr, hp', run_rt (fd := fDraw a b m q d) hf rfl e rfl⟩⟩
/-- the def that picks -/
def fPick (g : Nat) : Fd := ⟨2, 2, [], [.ret (.op .item [.nm 1, .call g [.nm 0, .op .len [.nm 1]]])]⟩
structure PickC (C : Cal) (f : Nat) : Prop where
  lst : ∀ (x y : Int) (ds : List PyData), PotOk x y → ds ≠ [] → ds.length ≤ 100000 → ∃ (d : PyData) (x' y' : Int), d ∈ ds ∧ PotOk x' y' ∧ C f [pot x y, olOf ds] = some (.sh d, [pot x' y', olOf ds])
  lstS : ∀ (x y : Int) (ds : List PyData), PotOk x y → ds ≠ [] → ds.length ≤ 100000 → ∃ (d : PyData) (x' y' : Int), d ∈ ds ∧ PotOk x' y' ∧ C f [pot x y, .sh (.list ds)] = some (.sh d, [pot x' y', .sh (.list ds)])
  str : ∀ (x y : Int) (z : Str), PotOk x y → 1 ≤ z.length → z.length ≤ 100000 → ∃ (c : Nat) (x' y' : Int), c ∈ z.cps.toList ∧ PotOk x' y' ∧ C f [pot x y, .sh (.str z)] = some (shS ⟨#[c]⟩, [pot x' y', .sh (.str z)])
theorem pick_step {C : Cal} {g : Nat} (D : DrawC C g) {x y : Int} (hp : PotOk x y) {o : O} {n : Nat} (hf : o.isFlat = true) (hl : pLen o = some (shI n)) (h1 : 1 ≤ n) (h2 : n ≤ 100000) :
    ∃ (r : Nat) (x' y' : Int), r < n ∧ PotOk x' y' ∧ ∀ v, pItem [o, .sh (.int (r : Int))] = some v → evSs C (fPick g).body [some (pot x y), some o] = some (.rt v [some (pot x' y'), some o]) := by
  obtain ⟨r, x', y', hr, hp', q⟩ := D.run x y n hp h1 h2
  refine ⟨r, x', y', hr, hp', fun v hv => ?_⟩
  have ln : ev C (.op .len [.nm 1]) [some (pot x y), some o] = some (.sh (.int n), [some (pot x y), some o]) := by
    simp [rdO, prim, u1, hl, hf, shI]
  have ld : lend [.sl 0, .tv (.sh (.int n))] [some (pot x y), some o] = some ([pot x y, .sh (.int n)], [none, some o]) := rfl
  have cl : ev C (.call g [.nm 0, .op .len [.nm 1]]) [some (pot x y), some o] = some (.sh (.int r), [some (pot x' y'), some o]) := by
    simp only [ev_call, evOs_nm, rdO, List.getElem?_cons_zero, Option.bind_some]
    rw [evOs_op, ln]
    simp only [Option.bind_some, evOs_nil, ld, q]
    rfl
  unfold fPick
  rw [evSs_cons, evS_ret, ev_op]
  simp only [evOs_nm, rdO, List.getElem?_cons_succ, List.getElem?_cons_zero, Option.bind_some]
  rw [evOs_call, cl]
  simp [rdO, prim, hv, hf]
theorem pick_c {P : List Fd} {f g : Nat} (hf : P[f]? = some (fPick g)) {k : Nat} (D : ∀ j, 1 ≤ j → DrawC (runF P j) g) (h : 2 ≤ k) : PickC (runF P k) f := by
  obtain ⟨k, rfl, hk⟩ := posK h
  have D := D k hk
  refine ⟨fun x y ds hp h1 h2 => ?_, fun x y ds hp h1 h2 => ?_, fun x y z hp h1 h2 => ?_⟩
  · have hl : 1 ≤ ds.length := by
      cases ds with
      | nil => exact absurd rfl h1
      | cons _ _ => simp
    obtain ⟨r, x', y', hr, hp', q⟩ := pick_step D hp (o := olOf ds) (n := ds.length) (by simp) (len_ol ds) hl h2
    exact ⟨ds[r], x', y', List.getElem_mem hr, hp', run_rt (fd := fPick g) hf rfl (q _ (item_at seq_ol (List.getElem?_eq_getElem hr))) rfl⟩
  · have hl : 1 ≤ ds.length := by
      cases ds with
      | nil => exact absurd rfl h1
      | cons _ _ => simp
    obtain ⟨r, x', y', hr, hp', q⟩ := pick_step D hp (o := .sh (.list ds)) (n := ds.length) (by simp) (by simp [pLen]) hl h2
    exact ⟨ds[r], x', y', List.getElem_mem hr, hp', run_rt (fd := fPick g) hf rfl (q _ (item_at seq_sh (List.getElem?_eq_getElem hr))) rfl⟩
  · have zl : z.length = z.cps.toList.length := by simp [Str.length]
    have z1 : z.length ≤ sizeLine := sz_le (by omega)
    obtain ⟨r, x', y', hr, hp', q⟩ := pick_step D hp (o := .sh (.str z)) (n := z.length) (by simp) (by simp [pLen, gd, z1]) h1 h2
    rw [zl] at hr
    refine ⟨z.cps.toList[r], x', y', List.getElem_mem hr, hp', run_rt (fd := fPick g) hf rfl (q _ ?_) rfl⟩
    simp only [pItem, z1, if_true]
    rw [atI_nat (List.getElem?_eq_getElem hr)]
    rfl
/-- a comprehension whose turns draw -/
theorem lcGo_pot {f : O → Qv.Env → Option (Option O × Qv.Env)} {Good : PyData → Prop} {r : Qv.Env} (h : ∀ (o : O) (x y : Int), PotOk x y → ∃ (d : PyData) (x' y' : Int), Good d ∧ PotOk x' y' ∧ f o (some (pot x y) :: r) = some (some (.sh d), some (pot x' y') :: r)) :
    ∀ (xs : List O) (acc : List PyData) (x y : Int), PotOk x y → acc.length + xs.length ≤ 1000000 → ∃ (ds : List PyData) (x' y' : Int), ds.length = xs.length ∧ (∀ d ∈ ds, Good d) ∧ PotOk x' y' ∧ lcGo f xs (acc.map O.sh) (some (pot x y) :: r) = some ((acc ++ ds).map O.sh, some (pot x' y') :: r) := by
  intro xs
  induction xs with
  | nil => exact fun acc x y hp _ => ⟨[], x, y, rfl, (fun z m => by cases m), hp, by simp [lcGo]⟩
  | cons o xs ih =>
    intro acc x y hp hl
    simp only [List.length_cons] at hl
    obtain ⟨d, x1, y1, hd, hp1, q⟩ := h o x y hp
    obtain ⟨ds, x2, y2, e1, e2, e3, e4⟩ := ih (acc ++ [d]) x1 y1 hp1 (by rw [List.length_append, List.length_singleton]; omega)
    refine ⟨d :: ds, x2, y2, by rw [List.length_cons, List.length_cons, e1], fun z m => (List.mem_cons.mp m).elim (fun e => e ▸ hd) (e2 z), e3, ?_⟩
    have e0 : acc.map O.sh ++ [.sh d] = (acc ++ [d]).map O.sh := by simp
    have c0 : (acc.map O.sh).length < sizeLine := Nat.lt_of_lt_of_le (show _ < 1000001 by simp; omega) (by decide)
    simp only [lcGo, q]
    rw [if_pos c0, e0, e4]
    simp
/-- .. over the numbers below n -/
theorem lc_pot {C : Cal} {ws : List Nat} {tg : Tg} {ies : List T} {e : T} {ρ : Qv.Env} {n : Nat} (Good : PyData → Prop) {r0 r : Qv.Env} {x y : Int} (hp : PotOk x y) (hn : n ≤ 1000000) (h1 : evs C ies ρ = some ([.sh (.int n)], some (pot x y) :: r0))
    (hfo : ∀ x y : Int, forget (some (pot x y) :: r0) ws = some (pot x y) :: r) (hfo2 : ∀ x y : Int, forget (some (pot x y) :: r) ws = some (pot x y) :: r)
    (h : ∀ (o : O) (x y : Int), PotOk x y → ∃ (d : PyData) (x' y' : Int), Good d ∧ PotOk x' y' ∧ lcT C ws tg [] e o (some (pot x y) :: r) = some (some (.sh d), some (pot x' y') :: r)) :
    ∃ (ds : List PyData) (x' y' : Int), ds.length = n ∧ (∀ d ∈ ds, Good d) ∧ PotOk x' y' ∧ ev C (.lc ws tg .rng ies [] e) ρ = some (olOf ds, some (pot x' y') :: r) := by
  obtain ⟨ds, x', y', e1, e2, e3, e4⟩ := lcGo_pot h ((List.range n).map fun (i : Nat) => shI (0 + (i : Int))) [] x y hp (by rw [List.length_nil, List.length_map, List.length_range]; omega)
  refine ⟨ds, x', y', by rw [e1, List.length_map, List.length_range], e2, e3, ?_⟩
  have w : walk .rng ([O.sh (.int (n : Int))].map fun o => O.sh o.d) = some ((List.range n).map fun (i : Nat) => shI (0 + (i : Int))) := walk_n hn
  rw [lc_any h1 w (by rw [hfo]; exact e4), hfo2]
  rfl
/-- the body of a comprehension's turn -/
theorem lcT_nm {C : Cal} {ws : List Nat} {i : Nat} {e : T} {x : O} {ρ ρ2 ρ3 : Qv.Env} {v : O} (h0 : bindTg (.nm i) x ρ = some ρ2) (h1 : ev C e ρ2 = some (v, ρ3)) : lcT C ws (.nm i) [] e x ρ = some (some (.sh v.d), forget ρ3 ws) := by
  simp only [lcT, h0, Option.bind_some, evBs_nil, if_true, h1]

/-! ### what can be shown -/
structure Rp (N D : Nat) (d : PyData) : Prop where
  sh : d.showable = true
  hd : d.hasDict = false
  lf : d.leavesShort 13 = true
  wt : d.weight ≤ N
  dp : d.depth ≤ D
structure RpA (N D : Nat) (ds : List PyData) : Prop where
  sh : PyData.showableAll ds = true
  hd : PyData.hasDictAll ds = false
  lf : PyData.leavesShortAll 13 ds = true
  wt : PyData.weightAll ds ≤ N
  dp : PyData.depthAll ds ≤ D
theorem RpA.nil {N D : Nat} : RpA N D [] := ⟨by simp [PyData.showableAll], by simp [PyData.hasDictAll], by simp [PyData.leavesShortAll], by simp [PyData.weightAll], by simp [PyData.depthAll]⟩
theorem RpA.cons {N M D : Nat} {d : PyData} {ds : List PyData} (h : Rp N D d) (hs : RpA M D ds) : RpA (N + 1 + M) D (d :: ds) := by
  obtain ⟨a1, a2, a3, a4, a5⟩ := h
  obtain ⟨b1, b2, b3, b4, b5⟩ := hs
  refine ⟨by simp [PyData.showableAll, a1, b1], by simp [PyData.hasDictAll, a2, b2], by simp [PyData.leavesShortAll, a3, b3], ?_, ?_⟩
  · simp only [PyData.weightAll]
    omega
  · simp only [PyData.depthAll]
    omega
theorem RpA.list {N D : Nat} {ds : List PyData} (h : RpA N D ds) : Rp N (D + 1) (.list ds) := ⟨by simpa only [PyData.showable] using h.sh, by simpa only [PyData.hasDict] using h.hd, by simpa only [PyData.leavesShort] using h.lf, by simpa only [PyData.weight] using h.wt, by have := h.dp; simp only [PyData.depth]; omega⟩
theorem RpA.tuple {N D : Nat} {ds : List PyData} (h : RpA N D ds) : Rp N (D + 1) (.tuple ds) := ⟨by simpa only [PyData.showable] using h.sh, by simpa only [PyData.hasDict] using h.hd, by simpa only [PyData.leavesShort] using h.lf, by simpa only [PyData.weight] using h.wt, by have := h.dp; simp only [PyData.depth]; omega⟩
theorem Rp.mono {N M D E : Nat} {d : PyData} (h : Rp N D d) (h1 : N ≤ M) (h2 : D ≤ E) : Rp M E d := ⟨h.sh, h.hd, h.lf, Nat.le_trans h.wt h1, Nat.le_trans h.dp h2⟩
theorem RpA.mono {N M D E : Nat} {d : List PyData} (h : RpA N D d) (h1 : N ≤ M) (h2 : D ≤ E) : RpA M E d := ⟨h.sh, h.hd, h.lf, Nat.le_trans h.wt h1, Nat.le_trans h.dp h2⟩
theorem RpA.map {α : Type} {f : α → PyData} {N D : Nat} : ∀ {xs : List α}, (∀ x ∈ xs, Rp N D (f x)) → RpA (xs.length * (N + 1)) D (xs.map f)
  | [], _ => RpA.nil.mono (Nat.zero_le _) (Nat.le_refl _)
  | x :: xs, h => by
    have q := RpA.cons (h x List.mem_cons_self) (RpA.map (xs := xs) fun y m => h y (List.mem_cons_of_mem _ m))
    refine q.mono ?_ (Nat.le_refl _)
    rw [List.length_cons, Nat.add_mul, Nat.one_mul]
    omega
theorem Rp.repr {N : Nat} {o : O} (h : Rp N 60 o.d) (hN : N ≤ 2 ^ 20) : pRepr o = some (shS o.d.shown) := by
  have l := PyData.shown_fits (B := 13) (by decide) (by decide) h.lf (Nat.le_trans h.wt hN)
  unfold pRepr
  rw [h.sh, h.hd, decide_eq_true l, decide_eq_true h.dp]
  rfl
theorem rp_none : Rp 0 0 .none := ⟨by decide, by decide, by decide, by decide, by decide⟩
theorem rp_bool (b : Bool) : Rp 0 0 (.bool b) := by cases b <;> exact ⟨by decide, by decide, by decide, by decide, by decide⟩
theorem rp_str {x : Str} {N : Nat} (h : ∀ c ∈ x.cps.toList, c < 128) (hl : x.length ≤ N) : Rp N 0 (.str x) := by
  have c : x.cps.toList.all (fun c => decide (c < 16 ^ 8)) = true := by
    rw [List.all_eq_true]
    exact fun c m => decide_eq_true (Nat.lt_trans (h c m) (by decide))
  exact ⟨by simp [PyData.showable], by simp [PyData.hasDict], by simpa only [PyData.leavesShort] using c, (by simp only [PyData.weight]; exact hl), by simp [PyData.depth]⟩
theorem ints_ok : ((List.range 4001).all fun n => PyData.showable (.int (n : Int)) && PyData.leavesShort 13 (.int (n : Int)) && decide (PyData.weight (.int (n : Int)) ≤ 13)) = true := by decide +kernel
theorem rp_int {n : Nat} (h : n ≤ 4000) : Rp 13 0 (.int (n : Int)) := by
  have q := List.all_eq_true.mp ints_ok n (by simp; omega)
  simp only [Bool.and_eq_true, decide_eq_true_eq] at q
  exact ⟨q.1.1, by simp [PyData.hasDict], q.1.2, q.2, by simp [PyData.depth]⟩
end Qv
end
section
set_option Elab.async false
set_option linter.all false
set_option maxRecDepth 100000
namespace L11
open PySem PySem.Spec PyProof.Rows L2 Qv
def top (i : Nat) : Stmt := PySem.Challenge.pw_formscountry_k11_whole_words_of_texts.main.body.getD i (.Pass ⟨0, 0, 0, 0⟩)
/-- is_text_any -/
def f0 : Fd := ⟨1, 1, [], [.ret (.and2 (.op (.isinst ["str"]) [.nm 0]) (.op .le [.op .len [.nm 0], .c (.int 50000)]))]⟩
/-- want_text -/
def f1 : Fd := ⟨1, 1, [], [.ite (.tn (.tt (.call 0 [.nm 0]))) [.raise] []]⟩
/-- is_numeral -/
def f2 : Fd := ⟨1, 2, [], [.ite (.or2 (.tn (.chain .le .le [.c (.int 1), .op .len [.nm 0]] [.c (.int 10)])) (.tn (.tt (.op .all [.lc [1] (.nm 1) .sq [.nm 0] [] (.op .isin [.nm 1, .c (.str "0123456789")])])))) [.ret (.c (.bool false))] [],
    .ret (.or2 (.op .ne [.op .item [.nm 0, .c (.int 0)], .c (.str "0")]) (.op .eq [.nm 0, .c (.str "0")]))]⟩
/-- is_run_word -/
def f3 : Fd := ⟨1, 1, [], [.ret (.or2 (.call 2 [.nm 0]) (.and2 (.op .isin [.op .item [.nm 0, .c (.int 0)], .c (.str "abcdefghijklmnopqrstuvwxyz")]) (.op .le [.op .len [.nm 0], .c (.int 12)])))]⟩
/-- run_size -/
def f4 : Fd := ⟨2, 3, [], [.asg (.nm 2) (.c (.int 0)),
    .wh (.and2 (.op .lt [.op .add [.nm 1, .nm 2], .op .len [.nm 0]]) (.op .isin [.op .item [.nm 0, .op .add [.nm 1, .nm 2]], .c (.str "abcdefghijklmnopqrstuvwxyz0123456789")])) [.asg (.nm 2) (.op .add [.nm 2, .c (.int 1)])],
    .ret (.mv 2)]⟩
/-- quoted_size -/
def f5 : Fd := ⟨2, 4, [], [.asg (.nm 2) (.c (.int 1)),
    .wh (.and2 (.op .lt [.op .add [.nm 1, .nm 2], .op .len [.nm 0]]) (.op .isin [.op .item [.nm 0, .op .add [.nm 1, .nm 2]], .op .add [.c (.str "abcdefghijklmnopqrstuvwxyz"), .c (.str " ")]])) [.asg (.nm 2) (.op .add [.nm 2, .c (.int 1)])],
    .asg (.nm 3) (.op .eq [.sl [.nm 0] [.op .add [.nm 1, .nm 2]] [.op .add [.op .add [.nm 1, .nm 2], .c (.int 1)]], .c (.str "\"")]),
    .ret (.ite (.and2 (.tt (.nm 3)) (.chain .le .le [.c (.int 2), .nm 2] [.op .add [.c (.int 60), .c (.int 1)]])) (.op .add [.nm 2, .c (.int 1)]) (.c (.int 0)))]⟩
/-- text_word_size -/
def f6 : Fd := ⟨2, 3, [], [.ite (.op .isin [.op .item [.nm 0, .nm 1], .c (.str "(),.=<+-[]")]) [.ret (.c (.int 1))] [],
    .ite (.op .eq [.op .item [.nm 0, .nm 1], .c (.str "\"")]) [.ret (.call 5 [.nm 0, .nm 1])] [],
    .asg (.nm 2) (.call 4 [.nm 0, .nm 1]),
    .ret (.ite (.and2 (.op .gt [.nm 2, .c (.int 0)]) (.tt (.call 3 [.sl [.nm 0] [.nm 1] [.op .add [.nm 1, .nm 2]]]))) (.nm 2) (.c (.int 0)))]⟩
/-- remark_end -/
def f7 : Fd := ⟨2, 3, [], [.asg (.nm 2) (.mth .find3 (.nm 0) [.c (.str "\n"), .nm 1]),
    .ret (.ite (.op .lt [.nm 2, .c (.int 0)]) (.op .len [.nm 0]) (.nm 2))]⟩
/-- words_apart -/
def f8 : Fd := ⟨1, 6, [], [.asg (.tp [.nm 1, .nm 2, .nm 3, .nm 4]) (.tupo [.lst [], .c (.int 0), .c (.int 0), .c (.int 0)]),
    .wh (.op .lt [.nm 4, .op .len [.nm 0]]) [.ite (.op .eq [.op .item [.nm 0, .nm 4], .c (.str "\n")]) [.par [2, 3, 4] [.op .add [.nm 2, .c (.int 1)], .op .add [.nm 4, .c (.int 1)], .op .add [.nm 4, .c (.int 1)]]] [.ite (.op .eq [.op .item [.nm 0, .nm 4], .c (.str " ")]) [.asg (.nm 4) (.op .add [.nm 4, .c (.int 1)])] [.ite (.op .eq [.op .item [.nm 0, .nm 4], .c (.str "#")]) [.asg (.nm 4) (.call 7 [.nm 0, .nm 4])] [.asg (.nm 5) (.call 6 [.nm 0, .nm 4]),
    .ite (.op .eq [.nm 5, .c (.int 0)]) [.ret (.tupo [.mv 1, .tup [.nm 2, .op .sub [.nm 4, .nm 3]], .tup [.nm 2, .op .sub [.nm 4, .nm 3]]])] [],
    .ex (.app 1 (.tup [.sl [.nm 0] [.nm 4] [.op .add [.nm 4, .nm 5]], .nm 2, .op .sub [.nm 4, .nm 3]])),
    .asg (.nm 4) (.op .add [.nm 4, .nm 5])]]]],
    .ret (.tupo [.mv 1, .c (.none), .tup [.nm 2, .op .sub [.nm 4, .nm 3]]])]⟩
/-- want_few_words -/
def f9 : Fd := ⟨1, 1, [], [.ite (.op .gt [.op .len [.nm 0], .c (.int 8000)]) [.raise] []]⟩
/-- text_words -/
def f10 : Fd := ⟨1, 2, [], [.ex (.call 1 [.nm 0]),
    .asg (.nm 1) (.prj (.call 8 [.nm 0]) 0),
    .ex (.call 9 [.nm 1]),
    .ret (.mv 1)]⟩
/-- wrong_sign -/
def f11 : Fd := ⟨1, 1, [], [.ex (.call 1 [.nm 0]),
    .ret (.prj (.call 8 [.nm 0]) 1)]⟩
/-- _law_draw -/
def f12 : Fd := ⟨2, 3, [], [.ite (.op .gt [.op .item [.nm 0, .c (.int 0)], .c (.int 0)]) [.asg (.tp [.st 0 (.c (.int 0)), .nm 2]) (.op .divmod [.op .item [.nm 0, .c (.int 0)], .nm 1]),
    .ret (.mv 2)] [],
    .asg (.st 0 (.c (.int 1))) (.op .mod [.op .int1 [.op .add [.op .mul [.op .item [.nm 0, .c (.int 1)], .c (.int 40692)], .c (.int 10399)]], .c (.int 2147483587)]),
    .ret (.op .mod [.op .int1 [.op .fdiv [.op .mod [.op .int1 [.op .mul [.op .item [.nm 0, .c (.int 1)], .op .item [.nm 0, .c (.int 1)]]], .c (.int 2147483549)], .c (.int 43)]], .nm 1])]⟩
/-- _law_pick -/
def f13 : Fd := ⟨2, 2, [], [.ret (.op .item [.nm 1, .call 12 [.nm 0, .op .len [.nm 1]]])]⟩
/-- _law_piece -/
def f14 : Fd := ⟨1, 3, [], [.asg (.nm 1) (.call 12 [.nm 0, .c (.int 12)]),
    .ite (.op .lt [.nm 1, .c (.int 4)]) [.ret (.mth .join (.c (.str "")) [.lc [2] (.nm 2) .rng [.call 13 [.nm 0, .lst [.c (.int 1), .c (.int 2), .c (.int 3), .c (.int 11), .c (.int 12), .c (.int 13), .c (.int 14)]]] [] (.call 13 [.nm 0, .c (.str "abz059")])])] [],
    .ite (.op .lt [.nm 1, .c (.int 6)]) [.ret (.call 13 [.nm 0, .lst [.c (.str "kind"), .c (.str "may"), .c (.str "0"), .c (.str "10"), .c (.str "1234567890"), .c (.str "12345678901"), .c (.str "a234567890bc"), .c (.str "007")]])] [],
    .ite (.op .eq [.nm 1, .c (.int 6)]) [.ret (.call 13 [.nm 0, .lst [.c (.str "("), .c (.str ")"), .c (.str ","), .c (.str "."), .c (.str "="), .c (.str "<"), .c (.str "+"), .c (.str "-"), .c (.str "["), .c (.str "]")]])] [],
    .ite (.op .eq [.nm 1, .c (.int 7)]) [.ret (.op .add [.op .add [.c (.str "\""), .mth .join (.c (.str "")) [.lc [2] (.nm 2) .rng [.call 13 [.nm 0, .lst [.c (.int 0), .c (.int 1), .c (.int 2), .c (.int 12), .c (.int 13), .c (.int 59), .c (.int 60), .c (.int 61)]]] [] (.call 13 [.nm 0, .c (.str "ab z")])]], .call 13 [.nm 0, .lst [.c (.str "\""), .c (.str "\""), .c (.str "\""), .c (.str ""), .c (.str "9")]]])] [],
    .ite (.op .eq [.nm 1, .c (.int 8)]) [.ret (.op .add [.c (.str "#"), .call 13 [.nm 0, .lst [.c (.str ""), .c (.str " a ("), .c (.str "@!"), .c (.str "\""), .c (.str "#")]]])] [],
    .ret (.call 13 [.nm 0, .lst [.c (.str " "), .c (.str "\n"), .c (.str "  "), .c (.str "\n\n"), .c (.str " "), .c (.str "A"), .c (.str "@"), .c (.str "_"), .c (.str "'"), .c (.str " (a) "), .c (.str "<-"), .c (.str ";"), .c (.str "\"a\"")]])]⟩
/-- _law_size -/
def f15 : Fd := ⟨2, 9, [], [.ite (.op .isin [.op .item [.nm 0, .nm 1], .c (.str "(),.=<+-[]")]) [.ret (.c (.int 1))] [],
    .ite (.op .eq [.op .item [.nm 0, .nm 1], .c (.str "\"")]) [.asg (.nm 2) (.mth .find3 (.nm 0) [.c (.str "\""), .op .add [.nm 1, .c (.int 1)]]),
    .asg (.nm 3) (.ite (.op .gt [.nm 2, .nm 1]) (.sl [.nm 0] [.op .add [.nm 1, .c (.int 1)]] [.nm 2]) (.c (.str ""))),
    .ret (.ite (.and2 (.chain .le .le [.c (.int 1), .op .len [.nm 3]] [.c (.int 60)]) (.tt (.op .all [.lc [8] (.nm 8) .sq [.nm 3] [] (.op .isin [.nm 8, .c (.str "abcdefghijklmnopqrstuvwxyz ")])]))) (.op .add [.op .len [.nm 3], .c (.int 2)]) (.c (.int 0)))] [],
    .asg (.nm 4) (.c (.int 0)),
    .wh (.and2 (.op .lt [.op .add [.nm 1, .nm 4], .op .len [.nm 0]]) (.op .isin [.op .item [.nm 0, .op .add [.nm 1, .nm 4]], .c (.str "abcdefghijklmnopqrstuvwxyz0123456789")])) [.asg (.nm 4) (.op .add [.nm 4, .c (.int 1)])],
    .asg (.nm 5) (.sl [.nm 0] [.nm 1] [.op .add [.nm 1, .nm 4]]),
    .asg (.nm 6) (.and2 (.op .ne [.nm 5, .c (.str "")]) (.and2 (.op .notin [.op .item [.nm 5, .c (.int 0)], .c (.str "0123456789")]) (.op .le [.nm 4, .c (.int 12)]))),
    .asg (.nm 7) (.and2 (.op .ne [.nm 5, .c (.str "")]) (.and2 (.op .all [.lc [8] (.nm 8) .sq [.nm 5] [] (.op .isin [.nm 8, .c (.str "0123456789")])]) (.and2 (.op .le [.nm 4, .c (.int 10)]) (.or2 (.op .ne [.op .item [.nm 5, .c (.int 0)], .c (.str "0")]) (.op .eq [.nm 5, .c (.str "0")]))))),
    .ret (.ite (.or2 (.tt (.nm 6)) (.tt (.nm 7))) (.nm 4) (.c (.int 0)))]⟩
/-- _law_words -/
def f16 : Fd := ⟨1, 6, [], [.asg (.nm 1) (.lst []),
    .fr (.tp [.nm 2, .nm 3]) .en [.mth .split (.nm 0) [.c (.str "\n")]] [.asg (.nm 4) (.c (.int 0)),
    .wh (.and2 (.op .lt [.nm 4, .op .len [.nm 3]]) (.op .ne [.op .item [.nm 3, .nm 4], .c (.str "#")])) [.asg (.nm 5) (.ite (.op .eq [.op .item [.nm 3, .nm 4], .c (.str " ")]) (.c (.int 1)) (.call 15 [.nm 3, .nm 4])),
    .ite (.op .eq [.nm 5, .c (.int 0)]) [.ret (.tupo [.mv 1, .tup [.nm 2, .nm 4]])] [],
    .ex (.ext 1 [.ite (.op .ne [.op .item [.nm 3, .nm 4], .c (.str " ")]) (.lst [.tup [.sl [.nm 3] [.nm 4] [.op .add [.nm 4, .nm 5]], .nm 2, .nm 4]]) (.lst [])]),
    .asg (.nm 4) (.op .add [.nm 4, .nm 5])]],
    .ret (.tupo [.mv 1, .c (.none)])]⟩
/-- _law_right -/
def f17 : Fd := ⟨1, 10, [], [.fr (.nm 1) .rng [.c (.int 3)] [.asg (.nm 2) (.lc [9] (.nm 9) .rng [.call 12 [.nm 0, .c (.int 40)]] [] (.call 14 [.nm 0])),
    .asg (.nm 3) (.mth .join (.call 13 [.nm 0, .lst [.c (.str ""), .c (.str " "), .c (.str " ")]]) [.nm 2]),
    .asg (.tp [.nm 4, .nm 5]) (.call 16 [.nm 3]),
    .asg (.nm 6) (.call 10 [.nm 3]),
    .ite (.op .ne [.op .reprl [.nm 6, .callk 10 [.nm 3] [0], .call 11 [.nm 3], .callk 11 [.nm 3] [0]], .op .reprl [.nm 4, .nm 4, .nm 5, .nm 5]]) [.ret (.c (.bool false))] [],
    .ex (.app 6 (.c (.none))),
    .asg (.tp [.nm 7, .nm 8]) (.call 16 [.op .add [.nm 3, .c (.str "\n0 x")]]),
    .ite (.op .ne [.op .reprl [.call 10 [.nm 3], .call 10 [.op .add [.nm 3, .c (.str "\n0 x")]], .call 11 [.op .add [.nm 3, .c (.str "\n0 x")]]], .op .reprl [.nm 4, .nm 7, .nm 8]]) [.ret (.c (.bool false))] []],
    .ret (.c (.bool true))]⟩
def pgm : List Fd := [f0, f1, f2, f3, f4, f5, f6, f7, f8, f9, f10, f11, f12, f13, f14, f15, f16, f17]
def pg : Pg := ⟨[("is_text_any", ["value"]), ("want_text", ["text"]), ("is_numeral", ["value"]), ("is_run_word", ["value"]), ("run_size", ["text", "at"]), ("quoted_size", ["text", "at"]), ("text_word_size", ["text", "at"]), ("remark_end", ["text", "at"]), ("words_apart", ["text"]), ("want_few_words", ["words"]), ("text_words", ["text"]), ("wrong_sign", ["text"]), ("_law_draw", ["pot", "many"]), ("_law_pick", ["pot", "some"]), ("_law_piece", ["pot"]), ("_law_size", ["line", "at"]), ("_law_words", ["text"]), ("_law_right", ["pot"])],
  [("MOST_SIGNS", .int 12), ("LETTERS", .str "abcdefghijklmnopqrstuvwxyz"), ("NAME_SIGNS", .str "abcdefghijklmnopqrstuvwxyz0123456789"), ("TEXT_SIGNS", .str "(),.=<+-[]"), ("TEXT_FIGURES", .str "0123456789"), ("MOST_TEXT_SIGNS", .int 50000), ("MOST_TEXT_WORDS", .int 8000), ("MOST_FIGURES", .int 10), ("MOST_QUOTED", .int 60)],
  [(10, ["text"], 0, [0]), (11, ["text"], 0, [0])]⟩
def rows : List (Nat × List Str × Fd) := [(15, ["value"], f0),
  (16, ["text"], f1),
  (17, ["value", "sign"], f2),
  (18, ["value"], f3),
  (19, ["text", "at", "size"], f4),
  (20, ["text", "at", "size", "is_closed"], f5),
  (21, ["text", "at", "size"], f6),
  (22, ["text", "at", "found"], f7),
  (23, ["text", "found", "line", "begin", "at", "size"], f8),
  (24, ["words"], f9),
  (25, ["text", "words"], f10),
  (26, ["text"], f11),
  (29, ["pot", "many", "digit"], f12),
  (30, ["pot", "some"], f13),
  (31, ["pot", "way", "turn"], f14),
  (32, ["line", "at", "end", "inner", "size", "run", "is_name", "is_number", "sign"], f15),
  (33, ["text", "found", "number", "line", "at", "size"], f16),
  (34, ["pot", "turn", "pieces", "text", "words", "wrong", "told", "late", "there", "piece"], f17)]
end L11
end
section
set_option Elab.async false
set_option linter.all false
/-! k11, the plain law: two ways of going through a text have the same words. -/
namespace L11
def lets : List Nat := (List.range 26).map (· + 97)
def figs : List Nat := (List.range 10).map (· + 48)
def names : List Nat := lets ++ figs
def lsp : List Nat := lets ++ [32]
def sgns : List Nat := [40, 41, 44, 46, 61, 60, 43, 45, 91, 93]
def qsz (r : List Nat) : Nat :=
  let q := (r.takeWhile fun c => decide (c ∈ lsp)).length
  if (r.drop q).head? = some 34 ∧ 1 ≤ q ∧ q ≤ 60 then q + 2 else 0
def numeral (run : List Nat) : Bool := decide (1 ≤ run.length) && decide (run.length ≤ 10) && run.all (fun c => decide (c ∈ figs)) && (decide (run.head? ≠ some 48) || decide (run = [48]))
def rwd (run : List Nat) : Bool := numeral run || (decide (run.headD 0 ∈ lets) && decide (run.length ≤ 12))
def runOf (s : List Nat) : List Nat := s.takeWhile fun c => decide (c ∈ names)
def rsz (s : List Nat) : Nat := if runOf s ≠ [] ∧ rwd (runOf s) = true then (runOf s).length else 0
def siz : List Nat → Nat
  | [] => 0
  | c :: r => if c ∈ sgns then 1 else if c = 34 then qsz r else rsz (c :: r)
theorem tw_app {f : Nat → Bool} {d : Nat} (h : f d = false) (rest : List Nat) : ∀ r : List Nat, (r ++ d :: rest).takeWhile f = r.takeWhile f
  | [] => by simp [List.takeWhile, h]
  | c :: r => by
    simp only [List.cons_append, List.takeWhile_cons]
    rw [tw_app h rest r]
theorem tw_len (f : Nat → Bool) : ∀ r : List Nat, (r.takeWhile f).length ≤ r.length
  | [] => by simp
  | c :: r => by
    rw [List.takeWhile_cons]
    split
    · simp only [List.length_cons]
      have := tw_len f r
      omega
    · simp
theorem qsz_app (rest r : List Nat) : qsz (r ++ 10 :: rest) = qsz r := by
  unfold qsz
  rw [tw_app (by decide) rest r]
  have hl := tw_len (fun c => decide (c ∈ lsp)) r
  generalize (r.takeWhile fun c => decide (c ∈ lsp)).length = q at *
  simp only
  rw [List.drop_append_of_le_length hl]
  cases e : r.drop q with
  | nil => simp
  | cons a b => simp
theorem siz_app (rest : List Nat) : ∀ p : List Nat, p ≠ [] → siz (p ++ 10 :: rest) = siz p
  | [], h => absurd rfl h
  | c :: r, _ => by
    show (if c ∈ sgns then 1 else if c = 34 then qsz (r ++ 10 :: rest) else rsz (c :: r ++ 10 :: rest)) = (if c ∈ sgns then 1 else if c = 34 then qsz r else rsz (c :: r))
    rw [qsz_app]
    unfold rsz runOf
    rw [tw_app (by decide) rest (c :: r)]
theorem qsz_le (r : List Nat) : qsz r ≤ 62 ∧ qsz r ≤ r.length + 1 := by
  unfold qsz
  have hl := tw_len (fun c => decide (c ∈ lsp)) r
  generalize (r.takeWhile fun c => decide (c ∈ lsp)).length = q at *
  simp only
  split
  · rename_i h
    obtain ⟨h1, h2, h3⟩ := h
    have : q < r.length := by
      rcases Nat.lt_or_ge q r.length with h | h
      · exact h
      · rw [List.drop_eq_nil_of_le h] at h1
        cases h1
    omega
  · omega
theorem rsz_le (s : List Nat) : rsz s ≤ 12 ∧ rsz s ≤ s.length := by
  unfold rsz
  split
  · rename_i h
    have hl := tw_len (fun c => decide (c ∈ names)) s
    change (runOf s).length ≤ s.length at hl
    refine ⟨?_, hl⟩
    have h2 := h.2
    unfold rwd numeral at h2
    simp only [Bool.or_eq_true, Bool.and_eq_true, decide_eq_true_eq] at h2
    omega
  · omega
theorem siz_le (s : List Nat) : siz s ≤ 62 ∧ siz s ≤ s.length := by
  cases s with
  | nil => simp [siz]
  | cons c r =>
    have h1 := qsz_le r
    have h2 := rsz_le (c :: r)
    simp only [siz, List.length_cons] at *
    split
    · omega
    · split <;> omega
abbrev Tok : Type := List Nat × Nat × Nat
abbrev Res : Type := List Tok × Option (Nat × Nat)
def consR (t : Tok) (q : Res) : Res := (t :: q.1, q.2)
def W : Nat → List Nat → Nat → Nat → Res
  | 0, _, _, _ => ([], none)
  | _ + 1, [], _, _ => ([], none)
  | n + 1, c :: r, l, k => if c = 10 then W n r (l + 1) 0 else if c = 32 then W n r l (k + 1) else if c = 35 then W n (r.dropWhile fun c => decide (c ≠ 10)) l (k + 1 + (r.takeWhile fun c => decide (c ≠ 10)).length)
    else if siz (c :: r) = 0 then ([], some (l, k)) else consR ((c :: r).take (siz (c :: r)), l, k) (W n ((c :: r).drop (siz (c :: r))) l (k + siz (c :: r)))
theorem dw_len (f : Nat → Bool) (r : List Nat) : (r.dropWhile f).length ≤ r.length := (List.dropWhile_sublist f).length_le
theorem W_fuel : ∀ (n m : Nat) (L : List Nat) (l k : Nat), L.length ≤ n → L.length ≤ m → W n L l k = W m L l k
  | 0, 0, _, _, _, _, _ => rfl
  | 0, m + 1, [], _, _, _, _ => rfl
  | 0, m + 1, _ :: _, _, _, h, _ => by simp at h
  | n + 1, 0, [], _, _, _, _ => rfl
  | n + 1, 0, _ :: _, _, _, _, h => by simp at h
  | n + 1, m + 1, [], _, _, _, _ => rfl
  | n + 1, m + 1, c :: r, l, k, h1, h2 => by
    simp only [List.length_cons] at h1 h2
    have a1 := dw_len (fun c => decide (c ≠ 10)) r
    simp only [W]
    rw [W_fuel n m r _ _ (by omega) (by omega), W_fuel n m r _ _ (by omega) (by omega), W_fuel n m (r.dropWhile fun c => decide (c ≠ 10)) _ _ (by omega) (by omega)]
    split
    · rfl
    · split
      · rfl
      · split
        · rfl
        · split
          · rfl
          · rename_i hz
            rw [W_fuel n m ((c :: r).drop (siz (c :: r))) _ _ (by simp only [List.length_drop, List.length_cons]; omega) (by simp only [List.length_drop, List.length_cons]; omega)]
def Wf (L : List Nat) (l k : Nat) : Res := W L.length L l k
theorem Wf_of {n : Nat} {L : List Nat} {l k : Nat} (h : L.length ≤ n) : W n L l k = Wf L l k := W_fuel _ _ _ _ _ h (Nat.le_refl _)
theorem Wf_nil (l k : Nat) : Wf [] l k = ([], none) := rfl
theorem Wf_nl (r : List Nat) (l k : Nat) : Wf (10 :: r) l k = Wf r (l + 1) 0 := by
  unfold Wf
  simp [W]
theorem Wf_sp (r : List Nat) (l k : Nat) : Wf (32 :: r) l k = Wf r l (k + 1) := by
  unfold Wf
  simp [W]
theorem Wf_rem (r : List Nat) (l k : Nat) : Wf (35 :: r) l k = Wf (r.dropWhile fun c => decide (c ≠ 10)) l (k + 1 + (r.takeWhile fun c => decide (c ≠ 10)).length) := by
  have a1 := dw_len (fun c => decide (c ≠ 10)) r
  rw [← Wf_of (n := r.length) a1]
  unfold Wf
  simp only [List.length_cons, W]
  rw [if_neg (by decide), if_neg (by decide), if_pos trivial]
theorem Wf_wrong {c : Nat} {r : List Nat} {l k : Nat} (h1 : c ≠ 10) (h2 : c ≠ 32) (h3 : c ≠ 35) (h4 : siz (c :: r) = 0) : Wf (c :: r) l k = ([], some (l, k)) := by
  unfold Wf
  simp only [List.length_cons, W]
  rw [if_neg h1, if_neg h2, if_neg h3, if_pos h4]
theorem Wf_word {c : Nat} {r : List Nat} {l k : Nat} (h1 : c ≠ 10) (h2 : c ≠ 32) (h3 : c ≠ 35) (h4 : siz (c :: r) ≠ 0) : Wf (c :: r) l k = consR ((c :: r).take (siz (c :: r)), l, k) (Wf ((c :: r).drop (siz (c :: r))) l (k + siz (c :: r))) := by
  rw [← Wf_of (n := r.length) (L := (c :: r).drop (siz (c :: r))) (by simp only [List.length_drop, List.length_cons]; omega)]
  unfold Wf
  simp only [List.length_cons, W]
  rw [if_neg h1, if_neg h2, if_neg h3, if_neg h4]
/-! ### line by line -/
def V : Nat → List Nat → Nat → Nat → Res
  | 0, _, _, _ => ([], none)
  | _ + 1, [], _, _ => ([], none)
  | n + 1, c :: r, l, k => if c = 35 then ([], none) else if c = 32 then V n r l (k + 1)
    else if siz (c :: r) = 0 then ([], some (l, k)) else consR ((c :: r).take (siz (c :: r)), l, k) (V n ((c :: r).drop (siz (c :: r))) l (k + siz (c :: r)))
theorem V_fuel : ∀ (n m : Nat) (L : List Nat) (l k : Nat), L.length ≤ n → L.length ≤ m → V n L l k = V m L l k
  | 0, 0, _, _, _, _, _ => rfl
  | 0, m + 1, [], _, _, _, _ => rfl
  | 0, m + 1, _ :: _, _, _, h, _ => by simp at h
  | n + 1, 0, [], _, _, _, _ => rfl
  | n + 1, 0, _ :: _, _, _, _, h => by simp at h
  | n + 1, m + 1, [], _, _, _, _ => rfl
  | n + 1, m + 1, c :: r, l, k, h1, h2 => by
    simp only [List.length_cons] at h1 h2
    simp only [V]
    rw [V_fuel n m r _ _ (by omega) (by omega)]
    split
    · rfl
    · split
      · rfl
      · split
        · rfl
        · rename_i hz
          rw [V_fuel n m ((c :: r).drop (siz (c :: r))) _ _ (by simp only [List.length_drop, List.length_cons]; omega) (by simp only [List.length_drop, List.length_cons]; omega)]
def Vf (L : List Nat) (l k : Nat) : Res := V L.length L l k
theorem Vf_of {n : Nat} {L : List Nat} {l k : Nat} (h : L.length ≤ n) : V n L l k = Vf L l k := V_fuel _ _ _ _ _ h (Nat.le_refl _)
theorem Vf_nil (l k : Nat) : Vf [] l k = ([], none) := rfl
theorem Vf_rem (r : List Nat) (l k : Nat) : Vf (35 :: r) l k = ([], none) := by
  unfold Vf
  simp [V]
theorem Vf_sp (r : List Nat) (l k : Nat) : Vf (32 :: r) l k = Vf r l (k + 1) := by
  unfold Vf
  simp [V]
theorem Vf_wrong {c : Nat} {r : List Nat} {l k : Nat} (h2 : c ≠ 32) (h3 : c ≠ 35) (h4 : siz (c :: r) = 0) : Vf (c :: r) l k = ([], some (l, k)) := by
  unfold Vf
  simp only [List.length_cons, V]
  rw [if_neg h3, if_neg h2, if_pos h4]
theorem Vf_word {c : Nat} {r : List Nat} {l k : Nat} (h2 : c ≠ 32) (h3 : c ≠ 35) (h4 : siz (c :: r) ≠ 0) : Vf (c :: r) l k = consR ((c :: r).take (siz (c :: r)), l, k) (Vf ((c :: r).drop (siz (c :: r))) l (k + siz (c :: r))) := by
  rw [← Vf_of (n := r.length) (L := (c :: r).drop (siz (c :: r))) (by simp only [List.length_drop, List.length_cons]; omega)]
  unfold Vf
  simp only [List.length_cons, V]
  rw [if_neg h3, if_neg h2, if_neg h4]
def joinR (a b : Res) : Res := match a.2 with
  | some w => (a.1, some w)
  | none => (a.1 ++ b.1, b.2)
theorem joinR_cons (t : Tok) (a b : Res) : joinR (consR t a) b = consR t (joinR a b) := by
  unfold joinR consR
  cases a.2 <;> rfl
theorem dw_app {d : Nat} {f : Nat → Bool} (h : f d = false) (rest : List Nat) : ∀ r : List Nat, (∀ c ∈ r, f c = true) → (r ++ d :: rest).dropWhile f = d :: rest
  | [], _ => by simp [List.dropWhile, h]
  | c :: r, m => by
    rw [List.cons_append, List.dropWhile_cons, if_pos (m c List.mem_cons_self)]
    exact dw_app h rest r fun x hx => m x (List.mem_cons_of_mem _ hx)
theorem dw_all {f : Nat → Bool} : ∀ r : List Nat, (∀ c ∈ r, f c = true) → r.dropWhile f = []
  | [], _ => rfl
  | c :: r, m => by
    rw [List.dropWhile_cons, if_pos (m c List.mem_cons_self)]
    exact dw_all r fun x hx => m x (List.mem_cons_of_mem _ hx)
theorem ne10 {r : List Nat} (h : 10 ∉ r) : ∀ c ∈ r, (fun c => decide (c ≠ 10)) c = true := fun c m => decide_eq_true fun e => h (by rw [← e]; exact m)
theorem W_line (rest : List Nat) (l : Nat) : ∀ (n : Nat) (p : List Nat) (k : Nat), p.length ≤ n → 10 ∉ p → Wf (p ++ 10 :: rest) l k = joinR (Vf p l k) (Wf rest (l + 1) 0)
  | n, [], k, _, _ => by
    rw [List.nil_append, Wf_nl, Vf_nil]
    rfl
  | 0, c :: r, k, h, _ => by simp at h
  | n + 1, c :: r, k, h, hm => by
    simp only [List.length_cons] at h
    have hr : 10 ∉ r := fun m => hm (List.mem_cons_of_mem _ m)
    have h1 : c ≠ 10 := fun e => hm (e ▸ List.mem_cons_self)
    by_cases h2 : c = 32
    · subst h2
      rw [List.cons_append, Wf_sp, Vf_sp]
      exact W_line rest l n r (k + 1) (by omega) hr
    · by_cases h3 : c = 35
      · subst h3
        rw [List.cons_append, Wf_rem, Vf_rem, dw_app (by decide) rest r (ne10 hr), Wf_nl]
        rfl
      · have hs := siz_app rest (c :: r) (by simp)
        rw [List.cons_append] at hs ⊢
        by_cases h4 : siz (c :: r) = 0
        · rw [Wf_wrong h1 h2 h3 (hs.trans h4), Vf_wrong h2 h3 h4]
          rfl
        · rw [Wf_word h1 h2 h3 (by rw [hs]; exact h4), Vf_word h2 h3 h4, joinR_cons, hs]
          have hle := (siz_le (c :: r)).2
          rw [← List.cons_append, List.take_append_of_le_length hle, List.drop_append_of_le_length hle]
          have ih := W_line rest l n ((c :: r).drop (siz (c :: r))) (k + siz (c :: r)) (by simp only [List.length_drop, List.length_cons]; omega) (fun m => hm (List.mem_of_mem_drop m))
          rw [ih]
theorem W_last (l : Nat) : ∀ (n : Nat) (p : List Nat) (k : Nat), p.length ≤ n → 10 ∉ p → Wf p l k = Vf p l k
  | n, [], k, _, _ => rfl
  | 0, c :: r, k, h, _ => by simp at h
  | n + 1, c :: r, k, h, hm => by
    simp only [List.length_cons] at h
    have hr : 10 ∉ r := fun m => hm (List.mem_cons_of_mem _ m)
    have h1 : c ≠ 10 := fun e => hm (e ▸ List.mem_cons_self)
    by_cases h2 : c = 32
    · subst h2
      rw [Wf_sp, Vf_sp]
      exact W_last l n r (k + 1) (by omega) hr
    · by_cases h3 : c = 35
      · subst h3
        rw [Wf_rem, Vf_rem, dw_all r (ne10 hr)]
        rfl
      · by_cases h4 : siz (c :: r) = 0
        · rw [Wf_wrong h1 h2 h3 h4, Vf_wrong h2 h3 h4]
        · rw [Wf_word h1 h2 h3 h4, Vf_word h2 h3 h4]
          rw [W_last l n ((c :: r).drop (siz (c :: r))) (k + siz (c :: r)) (by simp only [List.length_drop, List.length_cons]; omega) (fun m => hm (List.mem_of_mem_drop m))]
/-- all lines -/
def VL : List (List Nat) → Nat → Res
  | [], _ => ([], none)
  | p :: ps, l => joinR (Vf p l 0) (VL ps (l + 1))
/-- a text cut at its line feeds -/
inductive Cut : List Nat → List (List Nat) → Prop
  | last {p : List Nat} (h : 10 ∉ p) : Cut p [p]
  | more {p r : List Nat} {ps : List (List Nat)} (h : 10 ∉ p) (t : Cut r ps) : Cut (p ++ 10 :: r) (p :: ps)
theorem cut_eq {L : List Nat} {ps : List (List Nat)} (h : Cut L ps) : ∀ l, Wf L l 0 = VL ps l := by
  induction h with
  | last h =>
    intro l
    rw [W_last l _ _ 0 (Nat.le_refl _) h]
    show _ = joinR _ ([], none)
    unfold joinR
    generalize Vf _ l 0 = q
    obtain ⟨a, b⟩ := q
    cases b with
    | some w => rfl
    | none => simp
  | more h t ih =>
    intro l
    rw [W_line _ l _ _ 0 (Nat.le_refl _) h, ih (l + 1)]
    rfl
/-! ### bounds -/
structure TokOk (L : List Nat) (B : Nat) (t : Tok) : Prop where
  len : t.1.length ≤ 62
  mem : ∀ c ∈ t.1, c ∈ L
  row : t.2.1 ≤ B
  col : t.2.2 ≤ B
theorem W_ok (L0 : List Nat) (B : Nat) : ∀ (n : Nat) (L : List Nat) (l k : Nat), L.length ≤ n → (∀ c ∈ L, c ∈ L0) → l + L.length ≤ B → k + L.length ≤ B → (Wf L l k).1.length ≤ L.length ∧ (∀ t ∈ (Wf L l k).1, TokOk L0 B t) ∧ ∀ w, (Wf L l k).2 = some w → w.1 ≤ B ∧ w.2 ≤ B
  | n, [], l, k, _, _, _, _ => by
    rw [Wf_nil]
    exact ⟨Nat.le_refl _, (fun t m => by cases m), fun w e => by cases e⟩
  | 0, c :: r, l, k, h, _, _, _ => by simp at h
  | n + 1, c :: r, l, k, h, hm, h1, h2 => by
    simp only [List.length_cons] at h h1 h2
    have hr : ∀ c ∈ r, c ∈ L0 := fun x m => hm x (List.mem_cons_of_mem _ m)
    by_cases e1 : c = 10
    · subst e1
      rw [Wf_nl]
      obtain ⟨q1, q2, q3⟩ := W_ok L0 B n r (l + 1) 0 (by omega) hr (by omega) (by omega)
      exact ⟨by rw [List.length_cons]; omega, q2, q3⟩
    · by_cases e2 : c = 32
      · subst e2
        rw [Wf_sp]
        obtain ⟨q1, q2, q3⟩ := W_ok L0 B n r l (k + 1) (by omega) hr (by omega) (by omega)
        exact ⟨by rw [List.length_cons]; omega, q2, q3⟩
      · by_cases e3 : c = 35
        · subst e3
          rw [Wf_rem]
          have a1 := dw_len (fun c => decide (c ≠ 10)) r
          have a2 : (r.takeWhile fun c => decide (c ≠ 10)).length + (r.dropWhile fun c => decide (c ≠ 10)).length = r.length := by
            rw [← List.length_append, List.takeWhile_append_dropWhile]
          obtain ⟨q1, q2, q3⟩ := W_ok L0 B n (r.dropWhile fun c => decide (c ≠ 10)) l (k + 1 + (r.takeWhile fun c => decide (c ≠ 10)).length) (by omega) (fun x m => hr x ((List.dropWhile_sublist _).subset m)) (by omega) (by omega)
          exact ⟨by rw [List.length_cons]; omega, q2, q3⟩
        · by_cases e4 : siz (c :: r) = 0
          · rw [Wf_wrong e1 e2 e3 e4]
            exact ⟨Nat.zero_le _, (fun t m => by cases m), fun w e => by cases e; exact ⟨by omega, by omega⟩⟩
          · have hle := siz_le (c :: r)
            simp only [List.length_cons] at hle
            obtain ⟨q1, q2, q3⟩ := W_ok L0 B n ((c :: r).drop (siz (c :: r))) l (k + siz (c :: r)) (by simp only [List.length_drop, List.length_cons]; omega) (fun x m => hm x (List.mem_of_mem_drop m))
              (by simp only [List.length_drop, List.length_cons]; omega) (by simp only [List.length_drop, List.length_cons]; omega)
            rw [Wf_word e1 e2 e3 e4]
            simp only [List.length_drop, List.length_cons] at q1
            refine ⟨by simp only [consR, List.length_cons]; omega, fun t m => ?_, q3⟩
            rcases List.mem_cons.mp m with rfl | m
            · exact ⟨by simp only [List.length_take, List.length_cons]; omega, fun x hx => hm x (List.mem_of_mem_take hx), by show l ≤ B; omega, by show k ≤ B; omega⟩
            · exact q2 t m
end L11
end
section
set_option Elab.async false
set_option linter.all false
set_option maxRecDepth 100000
set_option maxHeartbeats 2000000
namespace L11
open PySem PySem.Spec PyProof.Rows L2 Qv
abbrev PG : List Fd := rows.map (·.2.2)
noncomputable abbrev RF (k : Nat) : Cal := runF PG k
/-! loops -/
section
variable {C : Cal} {c : Qv.T} {b : List Qv.S} {ρ ρ1 ρ2 : Qv.Env} {o : O}
theorem wh_f (h : ev C c ρ = some (.sh (.bool false), ρ1)) : evS C (.wh c b) ρ = some (.nx ρ1) := by
  simp only [evS]
  rw [loopO_eq, h]
theorem wh_t (h : ev C c ρ = some (.sh (.bool true), ρ1)) (hb : evSs C b ρ1 = some (.nx ρ2)) : evS C (.wh c b) ρ = evS C (.wh c b) ρ2 := by
  simp only [evS]
  rw [loopO_eq, h]
  simp only [hb]
theorem wh_r (h : ev C c ρ = some (.sh (.bool true), ρ1)) (hb : evSs C b ρ1 = some (.rt o ρ2)) : evS C (.wh c b) ρ = some (.rt o ρ2) := by
  simp only [evS]
  rw [loopO_eq, h]
  simp only [hb]
theorem scan {E : Nat → Qv.Env} {f : Nat → Bool} {R : List Nat} (h : ∀ j, ev C c (E j) = some (.sh (.bool (match R[j]? with | some d => f d | none => false)), E j)) (hb : ∀ j, evSs C b (E j) = some (.nx (E (j + 1)))) :
    ∀ (n j : Nat), R.length - j ≤ n → evS C (.wh c b) (E j) = some (.nx (E (j + ((R.drop j).takeWhile f).length)))
  | n, j, hn => by
    by_cases hj : j < R.length
    · have hd := List.drop_eq_getElem_cons hj
      have hg := List.getElem?_eq_getElem hj
      rw [hd, List.takeWhile_cons]
      have hc := h j
      rw [hg] at hc
      cases hf : f R[j] with
      | false =>
        simp only [hf] at hc
        rw [wh_f hc]
        simp
      | true =>
        simp only [hf] at hc
        rw [wh_t hc (hb j)]
        match n with
        | 0 => omega
        | n + 1 =>
          rw [scan h hb n (j + 1) (by omega)]
          simp only [if_true, List.length_cons]
          rw [show j + (List.takeWhile f (List.drop (j + 1) R)).length.succ = j + 1 + (List.takeWhile f (List.drop (j + 1) R)).length by omega]
    · have hg : R[j]? = none := List.getElem?_eq_none (by omega)
      have hc := h j
      rw [hg] at hc
      rw [wh_f hc, List.drop_eq_nil_of_le (by omega)]
      rfl
end
/-! texts as lists of signs -/
def sOf (l : List Nat) : Str := ⟨l.toArray⟩
theorem tl_sOf (l : List Nat) : (sOf l).cps.toList = l := by simp [sOf]
theorem len_sOf (l : List Nat) : (sOf l).length = l.length := by simp [sOf, Str.length]
theorem sOf_tl (x : Str) : sOf x.cps.toList = x := TL.mk_tl x
theorem s_lets : (Str.ofString "abcdefghijklmnopqrstuvwxyz").cps.toList = lets := by decide +kernel
theorem s_names : (Str.ofString "abcdefghijklmnopqrstuvwxyz0123456789").cps.toList = names := by decide +kernel
theorem s_figs : (Str.ofString "0123456789").cps.toList = figs := by decide +kernel
theorem s_lsp : (Str.ofString "abcdefghijklmnopqrstuvwxyz ").cps.toList = lsp := by decide +kernel
theorem s_lsp2 : ((Str.ofString "abcdefghijklmnopqrstuvwxyz") ++ (Str.ofString " ")).cps.toList = lsp := by decide +kernel
theorem s_sgns : (Str.ofString "(),.=<+-[]").cps.toList = sgns := by decide +kernel
theorem in_one (c : Nat) (y : Str) : pIn [.sh (.str (sOf [c])), .sh (.str y)] = some (decide (c ∈ y.cps.toList)) := by
  have e : (sOf [c]).cps.toList = [c] := tl_sOf [c]
  simp only [pIn, e]
theorem it_str {L : List Nat} {i : Nat} {c : Nat} (hz : L.length ≤ 1000000) (h : L[i]? = some c) : pItem [.sh (.str (sOf L)), .sh (.int (i : Int))] = some (.sh (.str (sOf [c]))) := by
  simp only [pItem, len_sOf, sz_le hz, if_true, tl_sOf]
  rw [atI_nat h]
  rfl
theorem cut_nat (L : List Nat) {a b : Nat} (h : a ≤ b) : cutS (sOf L) (some (a : Int)) (some (b : Int)) = sOf ((L.drop a).take (b - a)) := by
  unfold cutS
  rw [len_sOf, tl_sOf, HT.sIx_nat, HT.sIx_nat]
  unfold sOf
  congr 2
  by_cases ha : a ≤ L.length
  · rw [Nat.min_eq_left ha]
    by_cases hb : b ≤ L.length
    · rw [Nat.min_eq_left hb]
    · rw [Nat.min_eq_right (by omega), List.take_of_length_le (by rw [List.length_drop]; omega), List.take_of_length_le (by rw [List.length_drop]; omega)]
  · have e1 : List.drop a L = [] := List.drop_eq_nil_of_le (by omega)
    have e2 : List.drop (min a L.length) L = [] := List.drop_eq_nil_of_le (by omega)
    rw [e1, e2]
    simp
theorem eq_sOf (a b : List Nat) : pEq [.sh (.str (sOf a)), .sh (.str (sOf b))] = some (decide (a = b)) := by
  have : (sOf a == sOf b) = decide (a = b) := by
    by_cases h : a = b
    · subst h
      simp
    · rw [decide_eq_false h]
      cases q : (sOf a == sOf b) with
      | false => rfl
      | true =>
        have e : sOf a = sOf b := eq_of_beq q
        exact absurd (by rw [← tl_sOf a, e, tl_sOf]) h
  simp [pEq, scalD, PyData.eqv, this]
theorem s_q : Str.ofString "\"" = sOf [34] := by decide +kernel
theorem s_nl : Str.ofString "\n" = sOf [10] := by decide +kernel
theorem s_sp : Str.ofString " " = sOf [32] := by decide +kernel
theorem s_rm : Str.ofString "#" = sOf [35] := by decide +kernel
theorem s_0 : Str.ofString "0" = sOf [48] := by decide +kernel
theorem s_em : Str.ofString "" = sOf [] := by decide +kernel
/-- what stands at a place is in y -/
def inAt (y : List Nat) : Option Nat → Bool
  | some d => decide (d ∈ y)
  | none => false
theorem scanc {C : Cal} {ρ : Qv.Env} {L y : List Nat} {a m s : Nat} {SET : Qv.T} {Y : Str} (hz : L.length ≤ 1000000) (h0 : ρ[0]? = some (some (.sh (.str (sOf L))))) (h1 : ρ[1]? = some (some (.sh (.int (a : Int))))) (hs : ρ[s]? = some (some (.sh (.int (m : Int)))))
    (hS : evOs C [SET] ρ = some ([.tv (.sh (.str Y))], ρ)) (hy : Y.cps.toList = y) :
    ev C (.and2 (.op .lt [.op .add [.nm 1, .nm s], .op .len [.nm 0]]) (.op .isin [.op .item [.nm 0, .op .add [.nm 1, .nm s]], SET])) ρ = some (.sh (.bool (inAt y L[a + m]?)), ρ) := by
  have ad : ev C (.op .add [.nm 1, .nm s]) ρ = some (.sh (.int ((a + m : Nat) : Int)), ρ) := by
    simp [rdO, h1, hs, prim, pAdd, shI]
  have ln : ev C (.op .len [.nm 0]) ρ = some (.sh (.int (L.length : Int)), ρ) := by
    simp [rdO, h0, prim, u1, pLen, len_sOf, gd, sz_le hz, shI]
  have lt : ev C (.op .lt [.op .add [.nm 1, .nm s], .op .len [.nm 0]]) ρ = some (.sh (.bool (decide (a + m < L.length))), ρ) := by
    have e : decide (((a + m : Nat) : Int) < (L.length : Int)) = decide (a + m < L.length) := by
      by_cases q : a + m < L.length
      · rw [decide_eq_true q, decide_eq_true (by omega)]
      · rw [decide_eq_false q, decide_eq_false (by omega)]
    rw [ev_op, evOs_op, ad]
    simp only [Option.bind_some]
    rw [evOs_op, ln]
    simp only [Option.bind_some, evOs_nil, rdOs_cons, rdOs_nil, rdO_tv, flat_sh, if_true, prim, pCmp, shB, e]
  rw [ev_and, lt]
  by_cases q : a + m < L.length
  · have hg := List.getElem?_eq_getElem q
    rw [decide_eq_true q, onB_t, hg]
    have it : ev C (.op .item [.nm 0, .op .add [.nm 1, .nm s]]) ρ = some (.sh (.str (sOf [L[a + m]])), ρ) := by
      rw [ev_op, evOs_nm]
      simp only [rdO, h0, Option.bind_some]
      rw [evOs_op, ad]
      simp only [Option.bind_some, evOs_nil, rdOs_cons, rdOs_nil, rdO_tv, rdO, h0, flat_sh, if_true, prim, it_str hz hg]
    rw [ev_op, evOs_op, it]
    simp only [Option.bind_some, hS, rdOs_cons, rdOs_nil, rdO_tv, flat_sh, if_true, prim, in_one, hy, Option.map_some, inAt]
    rfl
  · rw [decide_eq_false q, onB_f, List.getElem?_eq_none (by omega)]
    rfl
end L11
end
section
set_option Elab.async false
set_option linter.all false
set_option maxRecDepth 100000
set_option maxHeartbeats 2000000
namespace L11
open PySem PySem.Spec PyProof.Rows L2 Qv
abbrev sx (L : List Nat) : O := .sh (.str (sOf L))
section
variable {C : Cal} {ρ : Qv.Env} {L : List Nat} {i j : Nat}
theorem ev_len {i : Nat} (hz : L.length ≤ 1000000) (h0 : ρ[i]? = some (some (sx L))) : ev C (.op .len [.nm i]) ρ = some (.sh (.int (L.length : Int)), ρ) := by
  simp [rdO, h0, prim, u1, pLen, len_sOf, gd, sz_le hz, shI]
theorem ev_at {i j c a : Nat} (hz : L.length ≤ 1000000) (h0 : ρ[i]? = some (some (sx L))) (h1 : ρ[j]? = some (some (.sh (.int (a : Int))))) (hc : L[a]? = some c) : ev C (.op .item [.nm i, .nm j]) ρ = some (sx [c], ρ) := by
  simp [rdO, h0, h1, prim, it_str hz hc]
theorem ev_eqs {e : Qv.T} {v : List Nat} {y : Str} {w : List Nat} (hn : isNm e = none) (h : ev C e ρ = some (sx v, ρ)) (hy : y = sOf w) : ev C (.op .eq [e, .c (.str y)]) ρ = some (.sh (.bool (decide (v = w))), ρ) := by
  rw [ev_op, evOs_tv hn, h]
  subst hy
  simp [prim, eq_sOf, shB]
theorem ev_nes {e : Qv.T} {v : List Nat} {y : Str} {w : List Nat} (hn : isNm e = none) (h : ev C e ρ = some (sx v, ρ)) (hy : y = sOf w) : ev C (.op .ne [e, .c (.str y)]) ρ = some (.sh (.bool (!decide (v = w))), ρ) := by
  rw [ev_op, evOs_tv hn, h]
  subst hy
  simp [prim, eq_sOf, shB]
theorem ev_ins {e : Qv.T} {c : Nat} {y : Str} {w : List Nat} (hn : isNm e = none) (h : ev C e ρ = some (sx [c], ρ)) (hy : y.cps.toList = w) : ev C (.op .isin [e, .c (.str y)]) ρ = some (.sh (.bool (decide (c ∈ w))), ρ) := by
  rw [ev_op, evOs_tv hn, h]
  simp only [Option.bind_some, evOs_c, evOs_nil, rdOs_cons, rdOs_nil, rdO_tv, flat_sh, if_true, prim, in_one, hy, Option.map_some, shB]
theorem ev_nins {e : Qv.T} {c : Nat} {y : Str} {w : List Nat} (hn : isNm e = none) (h : ev C e ρ = some (sx [c], ρ)) (hy : y.cps.toList = w) : ev C (.op .notin [e, .c (.str y)]) ρ = some (.sh (.bool (!decide (c ∈ w))), ρ) := by
  rw [ev_op, evOs_tv hn, h]
  simp only [Option.bind_some, evOs_c, evOs_nil, rdOs_cons, rdOs_nil, rdO_tv, flat_sh, if_true, prim, in_one, hy, Option.map_some, shB]
theorem ev_at0 {i c : Nat} {r : List Nat} (hz : (c :: r).length ≤ 1000000) (h0 : ρ[i]? = some (some (sx (c :: r)))) : ev C (.op .item [.nm i, .c (.int 0)]) ρ = some (sx [c], ρ) := by
  have it := it_str (L := c :: r) (i := 0) (c := c) hz rfl
  have it : pItem [.sh (.str (sOf (c :: r))), .sh (.int 0)] = some (.sh (.str (sOf [c]))) := it
  simp [rdO, h0, prim, it]
theorem ev_addn {i j a b : Nat} (h0 : ρ[i]? = some (some (.sh (.int (a : Int))))) (h1 : ρ[j]? = some (some (.sh (.int (b : Int))))) : ev C (.op .add [.nm i, .nm j]) ρ = some (.sh (.int ((a + b : Nat) : Int)), ρ) := by
  simp [rdO, h0, h1, prim, pAdd, shI]
theorem ev_addc {i a : Nat} (z : Int) (m : Nat) (hm : z = (m : Int)) (h0 : ρ[i]? = some (some (.sh (.int (a : Int))))) : ev C (.op .add [.nm i, .c (.int z)]) ρ = some (.sh (.int ((a + m : Nat) : Int)), ρ) := by
  subst hm
  simp [rdO, h0, prim, pAdd, shI]
/-- z[a:b] -/
theorem ev_cut {i a b : Nat} {lo hi : Qv.T} (hz : L.length ≤ 1000000) (h0 : ρ[i]? = some (some (sx L))) (hn : isNm hi = none) (hl : evOs C [lo] ρ = some ([x1], ρ)) (hx : rdO ρ x1 = some (.sh (.int (a : Int)))) (hh : ev C hi ρ = some (.sh (.int (b : Int)), ρ)) (hab : a ≤ b) :
    ev C (.sl [.nm i] [lo] [hi]) ρ = some (sx ((L.drop a).take (b - a)), ρ) := by
  have pc : pCut (sx L) (some (a : Int)) (some (b : Int)) = some (sx ((L.drop a).take (b - a))) := by
    have g : decide ((sOf L).length ≤ sizeLine) = true := decide_eq_true (by rw [len_sOf]; exact sz_le hz)
    simp only [pCut, gd, g, if_true, cut_nat L hab, shS]
  have e1 : evOs C [.nm i] ρ = some ([.sl i], ρ) := by simp [rdO, h0]
  have e2 : evOs C [hi] ρ = some ([.tv (.sh (.int (b : Int)))], ρ) := by rw [evOs_tv hn, hh]; rfl
  have p1 : partOf ρ [x1] = some (some (a : Int)) := by simp only [partOf, hx]
  have p2 : partOf ρ [.tv (.sh (.int (b : Int)))] = some (some (b : Int)) := rfl
  have p3 : rdOs ρ [.sl i] = some [sx L] := by simp [rdO, h0]
  simp only [ev, e1, e2, hl, p1, p2, p3, pc]
theorem ev_cmp {e e' : Qv.T} {a b : Int} (hn : isNm e = none) (hn' : isNm e' = none) (h : ev C e ρ = some (.sh (.int a), ρ)) (h' : ev C e' ρ = some (.sh (.int b), ρ)) :
    ev C (.op .le [e, e']) ρ = some (.sh (.bool (decide (a ≤ b))), ρ) ∧ ev C (.op .lt [e, e']) ρ = some (.sh (.bool (decide (a < b))), ρ) ∧ ev C (.op .gt [e, e']) ρ = some (.sh (.bool (decide (b < a))), ρ) := by
  refine ⟨?_, ?_, ?_⟩ <;> (rw [ev_op, evOs_tv hn, h]; simp only [Option.bind_some]; rw [evOs_tv hn', h']; simp [prim, pCmp, shB])
/-- a ≤ e ≤ b -/
theorem ev_chain {e e' e'' : Qv.T} {x1 x2 x3 : Opd} {a b c : Int} (h : evOs C [e, e'] ρ = some ([x1, x2], ρ)) (h1 : rdO ρ x1 = some (.sh (.int a))) (h2 : rdO ρ x2 = some (.sh (.int b))) (h' : evOs C [e''] ρ = some ([x3], ρ)) (h3 : rdO ρ x3 = some (.sh (.int c))) :
    ev C (.chain .le .le [e, e'] [e'']) ρ = some (.sh (.bool (decide (a ≤ b) && decide (b ≤ c))), ρ) := by
  have r1 : rdOs ρ [x1, x2] = some [.sh (.int a), .sh (.int b)] := by simp [h1, h2]
  have r2 : rdOs ρ [x2, x3] = some [.sh (.int b), .sh (.int c)] := by simp [h2, h3]
  simp only [ev, h, r1, prim, pCmp]
  by_cases q : a ≤ b
  · have q' : ¬ b < a := by omega
    simp only [shB, decide_eq_true q, h', List.drop_succ_cons, List.drop_zero, List.cons_append, List.nil_append, r2, Bool.true_and]
  · simp only [shB, decide_eq_false q, Bool.false_and]
/-- all(c in y for c in z) -/
theorem ev_allin {ws : List Nat} {n i : Nat} {y : Str} {w : List Nat} {ρ1 : Qv.Env} (hz : L.length ≤ 1000000) (h0 : ρ[i]? = some (some (sx L))) (hn : n < ρ.length) (hnn : ρ[n]? = some none) (hy : y.cps.toList = w) :
    ev C (.op .all [.lc [n] (.nm n) .sq [.nm i] [] (.op .isin [.nm n, .c (.str y)])]) ρ = some (.sh (.bool (L.all fun c => decide (c ∈ w))), ρ) := by
  have e1 : evs C [.nm i] ρ = some ([sx L], ρ) := by
    rw [evs_cons, ev_nm]
    simp only [rdV, h0, Option.bind_some, evs_nil]
  have w1 : walk .sq [.sh (sx L).d] = some (L.map fun c => sx [c]) := by
    show some (strItems (sOf L)) = _
    unfold strItems
    rw [tl_sOf]
    rfl
  have fg : forget ρ [n] = ρ := by
    show ρ.set n none = ρ
    refine List.ext_getElem? fun m => ?_
    rw [List.getElem?_set]
    split
    · rename_i e
      subst e
      rw [hnn]
    · rfl
  have l := lc_ofA (C := C) (ws := [n]) (tg := .nm n) (ik := .sq) (ies := [.nm i]) (cs := []) (e := .op .isin [.nm n, .c (.str y)]) (fun c => sx [c]) (fun c => some (shB (decide (c ∈ w)))) L e1 w1 (fun c _ => ?_) hz
  · rw [fg, fg, fm_some] at l
    have e2 : O.ol (L.map fun c => shB (decide (c ∈ w))) = olOf ((L.map fun c => decide (c ∈ w)).map .bool) := by
      rw [← ol_bools, List.map_map]
      rfl
    rw [e2] at l
    rw [ev_op, evOs_lc, l]
    simp only [Option.bind_some, evOs_nil, rdOs_cons, rdOs_nil, rdO_tv, flat_ol, if_true, prim, u1, pAll_bools, shB]
    rw [List.all_map]
    rfl
  · rw [fg]
    have b : bindTg (.nm n) (sx [c]) ρ = some (ρ.set n (some (sx [c]))) := by simp [bindTg, hn]
    have g : (ρ.set n (some (sx [c])))[n]? = some (some (sx [c])) := by rw [List.getElem?_set_self hn]
    have e3 : ev C (.op .isin [.nm n, .c (.str y)]) (ρ.set n (some (sx [c]))) = some (.sh (.bool (decide (c ∈ w))), ρ.set n (some (sx [c]))) := by
      rw [ev_op, evOs_nm]
      simp only [rdO, g, Option.bind_some, evOs_c, evOs_nil, rdOs_cons, rdOs_nil, flat_sh, if_true, prim, in_one, hy, Option.map_some, shB]
    rw [lcT_nm b e3]
    have : forget (ρ.set n (some (sx [c]))) [n] = ρ := by
      show (ρ.set n _).set n none = ρ
      rw [List.set_set]
      exact fg
    rw [this]
    rfl
end
end L11
end
section
set_option Elab.async false
set_option linter.all false
set_option maxRecDepth 100000
set_option maxHeartbeats 2000000
namespace L11
open PySem PySem.Spec PyProof.Rows L2 Qv
section
variable {C : Cal} {ρ ρ1 : Qv.Env} {L : List Nat} {i j : Nat} {a b : Qv.T} {x y : Bool}
theorem tn_b (h : ev C a ρ = some (.sh (.bool x), ρ1)) : ev C (.tn a) ρ = some (.sh (.bool (!x)), ρ1) := by
  rw [ev_tn, h]
  cases x <;> rfl
theorem tt_b (hn : isNm a = none) (h : ev C a ρ = some (.sh (.bool x), ρ1)) : ev C (.tt a) ρ = some (.sh (.bool x), ρ1) := by
  rw [ev_tt hn, h]
  simp [truth, shB]
theorem tt_n (h0 : ρ[i]? = some (some (.sh (.bool x)))) : ev C (.tt (.nm i)) ρ = some (.sh (.bool x), ρ) := by
  have r : rdOs ρ [.sl i] = some [.sh (.bool x)] := by simp [rdO, h0]
  simp only [ev, isNm, r, truth, shB]
theorem or_b (h : ev C a ρ = some (.sh (.bool x), ρ)) (h' : x = false → ev C b ρ = some (.sh (.bool y), ρ)) : ev C (.or2 a b) ρ = some (.sh (.bool (x || y)), ρ) := by
  rw [ev_or, h]
  cases x with
  | true => rfl
  | false => rw [onB_f, h' rfl]; rfl
theorem and_b (h : ev C a ρ = some (.sh (.bool x), ρ)) (h' : x = true → ev C b ρ = some (.sh (.bool y), ρ)) : ev C (.and2 a b) ρ = some (.sh (.bool (x && y)), ρ) := by
  rw [ev_and, h]
  cases x with
  | false => rfl
  | true => rw [onB_t, h' rfl]; rfl
theorem ite_b {c : Qv.T} {o : O} (h : ev C c ρ = some (.sh (.bool x), ρ)) (h1 : x = true → ev C a ρ = some (o, ρ)) (h2 : x = false → ev C b ρ = some (o, ρ)) : ev C (.ite c a b) ρ = some (o, ρ) := by
  rw [ev_ite, h]
  cases x with
  | false => rw [onB_f, h2 rfl]
  | true => rw [onB_t, h1 rfl]
theorem eq_n {v w : List Nat} {s : Str} (h0 : ρ[i]? = some (some (sx v))) (hy : s = sOf w) : ev C (.op .eq [.nm i, .c (.str s)]) ρ = some (.sh (.bool (decide (v = w))), ρ) := by
  subst hy
  simp [rdO, h0, prim, eq_sOf, shB]
theorem ne_n {v w : List Nat} {s : Str} (h0 : ρ[i]? = some (some (sx v))) (hy : s = sOf w) : ev C (.op .ne [.nm i, .c (.str s)]) ρ = some (.sh (.bool (!decide (v = w))), ρ) := by
  subst hy
  simp [rdO, h0, prim, eq_sOf, shB]
theorem eq_i {m : Nat} (z : Int) (n : Nat) (hz : z = (n : Int)) (h0 : ρ[i]? = some (some (.sh (.int (m : Int))))) : ev C (.op .eq [.nm i, .c (.int z)]) ρ = some (.sh (.bool (decide (m = n))), ρ) := by
  have e : ((m : Int) == (n : Int)) = decide (m = n) := by
    by_cases q : m = n
    · subst q; simp
    · rw [decide_eq_false q]
      exact beq_eq_false_iff_ne.mpr (by omega)
  subst hz
  simp [rdO, h0, prim, pEq, scalD, PyData.eqv, e, shB]
theorem gt_i {m : Nat} (z : Int) (n : Nat) (hz : z = (n : Int)) (h0 : ρ[i]? = some (some (.sh (.int (m : Int))))) : ev C (.op .gt [.nm i, .c (.int z)]) ρ = some (.sh (.bool (decide (n < m))), ρ) := by
  have e : decide ((n : Int) < (m : Int)) = decide (n < m) := by
    by_cases q : n < m
    · rw [decide_eq_true q, decide_eq_true (by omega)]
    · rw [decide_eq_false q, decide_eq_false (by omega)]
  subst hz
  simp [rdO, h0, prim, pCmp, e, shB]
theorem le_len (z : Int) (m : Nat) (hm : z = (m : Int)) (hz : L.length ≤ 1000000) (h0 : ρ[i]? = some (some (sx L))) : ev C (.op .le [.op .len [.nm i], .c (.int z)]) ρ = some (.sh (.bool (decide (L.length ≤ m))), ρ) := by
  have e : decide ((L.length : Int) ≤ (m : Int)) = decide (L.length ≤ m) := by
    by_cases q : L.length ≤ m
    · rw [decide_eq_true q, decide_eq_true (by omega)]
    · rw [decide_eq_false q, decide_eq_false (by omega)]
  subst hm
  rw [(ev_cmp rfl rfl (ev_len hz h0) (by rw [ev_c])).1, e]
theorem chain_len (u v : Int) (m n : Nat) (hu : u = (m : Int)) (hv : v = (n : Int)) (hz : L.length ≤ 1000000) (h0 : ρ[i]? = some (some (sx L))) : ev C (.chain .le .le [.c (.int u), .op .len [.nm i]] [.c (.int v)]) ρ = some (.sh (.bool (decide (m ≤ L.length) && decide (L.length ≤ n))), ρ) := by
  subst hu
  subst hv
  have e1 : evOs C [.c (.int (m : Int)), .op .len [.nm i]] ρ = some ([.tv (.sh (.int (m : Int))), .tv (.sh (.int (L.length : Int)))], ρ) := by
    rw [evOs_c, evOs_op, ev_len hz h0]
    simp
  rw [ev_chain e1 rfl rfl (x3 := .tv (.sh (.int (n : Int)))) (by simp) rfl]
  have q1 : decide ((m : Int) ≤ (L.length : Int)) = decide (m ≤ L.length) := decide_eq_decide.mpr (by omega)
  have q2 : decide ((L.length : Int) ≤ (n : Int)) = decide (L.length ≤ n) := decide_eq_decide.mpr (by omega)
  rw [q1, q2]
end
theorem f0_ok {k : Nat} (h : 1 ≤ k) (L : List Nat) (hl : L.length ≤ 50000) : RF k 0 [sx L] = some (shB true, [sx L]) := by
  obtain ⟨k, rfl, _⟩ := posK h
  refine run_rt (fd := f0) (ρ := [some (sx L)]) rfl rfl ?_ rfl
  show evSs (RF k) f0.body [some (sx L)] = _
  generalize RF k = C
  have e1 : ev C (.op (.isinst ["str"]) [.nm 0]) [some (sx L)] = some (.sh (.bool true), [some (sx L)]) := by
    simp [rdO, prim, u1, isAny, isT, shB]
  have e2 := le_len (C := C) (ρ := [some (sx L)]) (i := 0) (L := L) 50000 50000 rfl (by omega) rfl
  rw [decide_eq_true hl] at e2
  unfold f0
  rw [evSs_cons, evS_ret, and_b e1 fun _ => e2]
  rfl
theorem f1_ok {k : Nat} (h : 2 ≤ k) (L : List Nat) (hl : L.length ≤ 50000) : RF k 1 [sx L] = some (.sh .none, [sx L]) := by
  obtain ⟨k, rfl, h1⟩ := posK h
  refine run_nx (fd := f1) (ρ := [some (sx L)]) rfl rfl ?_ rfl
  show evSs (RF k) f1.body [some (sx L)] = _
  have q := f0_ok h1 L hl
  have e : ev (RF k) (.call 0 [.nm 0]) [some (sx L)] = some (.sh (.bool true), [some (sx L)]) := by
    simp only [ev_call, evOs_nm, evOs_nil, rdO, List.getElem?_cons_zero, Option.bind_some, lend, q, back]
    rfl
  unfold f1
  rw [evSs_cons, if_ff (tn_b (tt_b rfl e)), evSs_nil]
  rfl
theorem f2_ok {k : Nat} (h : 1 ≤ k) (L : List Nat) (hl : L.length ≤ 50000) : RF k 2 [sx L] = some (shB (numeral L), [sx L]) := by
  obtain ⟨k, rfl, _⟩ := posK h
  refine run_rt (fd := f2) (ρ := [some (sx L), none]) rfl rfl ?_ rfl
  show evSs (RF k) f2.body [some (sx L), none] = _
  generalize RF k = C
  have a1 := chain_len (C := C) (ρ := [some (sx L), none]) (i := 0) (L := L) 1 10 1 10 rfl rfl (by omega) rfl
  have a2 := ev_allin (C := C) (ρ := [some (sx L), none]) (L := L) (i := 0) (n := 1) (ws := []) (ρ1 := []) (by omega) rfl (by simp) rfl s_figs
  have a3 := or_b (tn_b a1) fun _ => tn_b (tt_b rfl a2)
  unfold f2
  unfold numeral
  rcases Bool.eq_false_or_eq_true (decide (1 ≤ L.length) && decide (L.length ≤ 10)) with q1 | q1
  · rcases Bool.eq_false_or_eq_true (L.all fun c => decide (c ∈ figs)) with q2 | q2
    · rw [q1, q2] at a3 ⊢
      rw [evSs_cons, if_ff a3, evSs_nil, thenS_nx]
      match L with
      | [] => simp at q1
      | c :: r =>
        have b1 := ev_nes (C := C) (ρ := [some (sx (c :: r)), none]) (y := "0") (w := [48]) rfl (ev_at0 (i := 0) (by omega) rfl) s_0
        have b2 := eq_n (C := C) (ρ := [some (sx (c :: r)), none]) (i := 0) (s := "0") (w := [48]) rfl s_0
        rw [evSs_cons, evS_ret, or_b b1 fun _ => b2]
        have e : (!decide ([c] = [48]) || decide (c :: r = [48])) = (decide ((c :: r).head? ≠ some 48) || decide (c :: r = [48])) := by
          by_cases hc : c = 48 <;> simp [hc]
        rw [e]
        rfl
    · rw [q1, q2] at a3 ⊢
      rw [evSs_cons, if_tt a3]
      rfl
  · rw [q1] at a3 ⊢
    rw [evSs_cons, if_tt a3]
    rfl
theorem f3_ok {k : Nat} (h : 2 ≤ k) (L : List Nat) (hl : L.length ≤ 50000) (hne : L ≠ []) : RF k 3 [sx L] = some (shB (rwd L), [sx L]) := by
  obtain ⟨k, rfl, h1⟩ := posK h
  refine run_rt (fd := f3) (ρ := [some (sx L)]) rfl rfl ?_ rfl
  show evSs (RF k) f3.body [some (sx L)] = _
  have q := f2_ok h1 L hl
  generalize RF k = C at q
  have e : ev C (.call 2 [.nm 0]) [some (sx L)] = some (.sh (.bool (numeral L)), [some (sx L)]) := by
    simp only [ev_call, evOs_nm, evOs_nil, rdO, List.getElem?_cons_zero, Option.bind_some, lend, q, back]
    rfl
  match L with
  | [] => exact absurd rfl hne
  | c :: r =>
    have b1 := ev_ins (C := C) (ρ := [some (sx (c :: r))]) (w := lets) rfl (ev_at0 (i := 0) (by omega) rfl) s_lets
    have b2 := le_len (C := C) (ρ := [some (sx (c :: r))]) (i := 0) (L := c :: r) 12 12 rfl (by omega) rfl
    unfold f3
    rw [evSs_cons, evS_ret, or_b e fun _ => and_b b1 fun _ => b2]
    rfl
end L11
end
section
set_option Elab.async false
set_option linter.all false
set_option maxRecDepth 100000
set_option maxHeartbeats 2000000
namespace L11
open PySem PySem.Spec PyProof.Rows L2 Qv
abbrev nx (a : Nat) : O := .sh (.int (a : Int))
theorem call1s {C : Cal} {ρ : Qv.Env} {f i : Nat} {d : PyData} {o : O} (h0 : ρ[i]? = some (some (.sh d))) (q : C f [.sh d] = some (o, [.sh d])) : ev C (.call f [.nm i]) ρ = some (o, ρ) := by
  simp only [ev_call, evOs_nm, evOs_nil, rdO, h0, Option.bind_some, lend, q, back]
theorem call2s {C : Cal} {ρ : Qv.Env} {f i j : Nat} {d e : PyData} {o : O} (h0 : ρ[i]? = some (some (.sh d))) (h1 : ρ[j]? = some (some (.sh e))) (q : C f [.sh d, .sh e] = some (o, [.sh d, .sh e])) : ev C (.call f [.nm i, .nm j]) ρ = some (o, ρ) := by
  simp only [ev_call, evOs_nm, evOs_nil, rdO, h0, h1, Option.bind_some, lend, q, back]
theorem callv {C : Cal} {ρ ρ1 : Qv.Env} {f : Nat} {e : Qv.T} {d : PyData} {o : O} (hn : isNm e = none) (h : ev C e ρ = some (.sh d, ρ1)) (q : C f [.sh d] = some (o, [.sh d])) : ev C (.call f [e]) ρ = some (o, ρ1) := by
  rw [ev_call, evOs_tv hn, h]
  simp only [Option.bind_some, evOs_nil, lend, q, back]
theorem f4_ok {k : Nat} (h : 1 ≤ k) (L : List Nat) (hl : L.length ≤ 50000) (at' : Nat) : RF k 4 [sx L, nx at'] = some (nx (runOf (L.drop at')).length, [sx L, nx at']) := by
  obtain ⟨k, rfl, _⟩ := posK h
  refine run_rt (fd := f4) (ρ := [some (sx L), some (nx at'), none]) rfl rfl ?_ rfl
  show evSs (RF k) f4.body [some (sx L), some (nx at'), none] = _
  generalize RF k = C
  have w := scan (C := C) (c := .and2 (.op .lt [.op .add [.nm 1, .nm 2], .op .len [.nm 0]]) (.op .isin [.op .item [.nm 0, .op .add [.nm 1, .nm 2]], .c (.str "abcdefghijklmnopqrstuvwxyz0123456789")])) (b := [.asg (.nm 2) (.op .add [.nm 2, .c (.int 1)])])
    (E := fun j => [some (sx L), some (nx at'), some (nx j)]) (f := fun d => decide (d ∈ names)) (R := L.drop at')
    (fun j => by
      rw [List.getElem?_drop]
      exact scanc (by omega) rfl rfl rfl (by simp) s_names)
    (fun j => by
      have e := ev_addc (C := C) (ρ := [some (sx L), some (nx at'), some (nx j)]) (i := 2) (a := j) 1 1 rfl rfl
      rw [evSs_cons, evS_asg, e]
      rfl) _ 0 (Nat.le_refl _)
  rw [List.drop_zero, Nat.zero_add] at w
  unfold f4
  refine (seq1 (ρ1 := [some (sx L), some (nx at'), some (nx 0)]) ?_).trans ((seq1 w).trans ?_)
  · rw [evS_asg, ev_c]
    rfl
  · rw [evSs_cons, evS_ret]
    rfl
theorem add_lsp {C : Cal} {ρ : Qv.Env} : evOs C [.op .add [.c (.str "abcdefghijklmnopqrstuvwxyz"), .c (.str " ")]] ρ = some ([.tv (.sh (.str ((Str.ofString "abcdefghijklmnopqrstuvwxyz") ++ (Str.ofString " "))))], ρ) := by
  have g : decide ((Str.ofString "abcdefghijklmnopqrstuvwxyz").length + (Str.ofString " ").length ≤ sizeLine) = true := decide_eq_true (sz_le (by decide +kernel))
  rw [evOs_op, ev_op]
  simp only [evOs_c, evOs_nil, Option.bind_some, rdOs_cons, rdOs_nil, rdO_tv, flat_sh, if_true, prim, pAdd, gd, g, shS]
theorem head_take (R : List Nat) : decide (R.take 1 = [34]) = decide (R.head? = some 34) := by
  cases R with
  | nil => rfl
  | cons a b => simp
theorem f5_ok {k : Nat} (h : 1 ≤ k) (L : List Nat) (hl : L.length ≤ 50000) (at' : Nat) : RF k 5 [sx L, nx at'] = some (nx (qsz (L.drop (at' + 1))), [sx L, nx at']) := by
  obtain ⟨k, rfl, _⟩ := posK h
  obtain ⟨q, hq⟩ : ∃ q, ((L.drop (at' + 1)).takeWhile fun c => decide (c ∈ lsp)).length = q := ⟨_, rfl⟩
  refine run_rt (fd := f5) (ρ := [some (sx L), some (nx at'), some (nx (1 + q)), some (.sh (.bool (decide (((L.drop (at' + 1)).drop q).head? = some 34))))]) rfl rfl ?_ rfl
  show evSs (RF k) f5.body [some (sx L), some (nx at'), none, none] = _
  generalize RF k = C
  have w := scan (C := C) (c := .and2 (.op .lt [.op .add [.nm 1, .nm 2], .op .len [.nm 0]]) (.op .isin [.op .item [.nm 0, .op .add [.nm 1, .nm 2]], .op .add [.c (.str "abcdefghijklmnopqrstuvwxyz"), .c (.str " ")]])) (b := [.asg (.nm 2) (.op .add [.nm 2, .c (.int 1)])])
    (E := fun j => [some (sx L), some (nx at'), some (nx (1 + j)), none]) (f := fun d => decide (d ∈ lsp)) (R := L.drop (at' + 1))
    (fun j => by
      rw [List.getElem?_drop, Nat.add_assoc]
      exact scanc (by omega) rfl rfl rfl add_lsp s_lsp2)
    (fun j => by
      have e := ev_addc (C := C) (ρ := [some (sx L), some (nx at'), some (nx (1 + j)), none]) (i := 2) (a := 1 + j) 1 1 rfl rfl
      rw [evSs_cons, evS_asg, e]
      rfl) _ 0 (Nat.le_refl _)
  rw [List.drop_zero, Nat.zero_add, hq] at w
  unfold f5
  refine (seq1 (ρ1 := [some (sx L), some (nx at'), some (nx (1 + 0)), none]) ?_).trans ((seq1 w).trans ((seq1 (ρ1 := [some (sx L), some (nx at'), some (nx (1 + q)), some (.sh (.bool (decide (((L.drop (at' + 1)).drop q).head? = some 34))))]) ?_).trans ?_))
  · rw [evS_asg, ev_c]
    rfl
  · have ad := ev_addn (C := C) (ρ := [some (sx L), some (nx at'), some (nx (1 + q)), none]) (i := 1) (j := 2) (a := at') (b := 1 + q) rfl rfl
    have ad2 : ev C (.op .add [.op .add [.nm 1, .nm 2], .c (.int 1)]) [some (sx L), some (nx at'), some (nx (1 + q)), none] = some (.sh (.int ((at' + (1 + q) + 1 : Nat) : Int)), [some (sx L), some (nx at'), some (nx (1 + q)), none]) := by
      rw [ev_op, evOs_op, ad]
      simp [prim, pAdd, shI]
    have cu := ev_cut (C := C) (ρ := [some (sx L), some (nx at'), some (nx (1 + q)), none]) (L := L) (i := 0) (a := at' + (1 + q)) (b := at' + (1 + q) + 1) (x1 := .tv (nx (at' + (1 + q)))) (by omega) rfl rfl (by rw [evOs_op, ad]; rfl) rfl ad2 (by omega)
    have eqv := ev_eqs (C := C) (y := "\"") (w := [34]) rfl cu s_q
    rw [evS_asg, eqv, Nat.add_sub_cancel_left, head_take, ← Nat.add_assoc, ← List.drop_drop]
    rfl
  · have c1 : evOs C [.c (.int 2), .nm 2] [some (sx L), some (nx at'), some (nx (1 + q)), some (.sh (.bool (decide (((L.drop (at' + 1)).drop q).head? = some 34))))] = some ([.tv (.sh (.int 2)), .sl 2], [some (sx L), some (nx at'), some (nx (1 + q)), some (.sh (.bool (decide (((L.drop (at' + 1)).drop q).head? = some 34))))]) := by
      simp [rdO]
    have c2 : evOs C [.op .add [.c (.int 60), .c (.int 1)]] [some (sx L), some (nx at'), some (nx (1 + q)), some (.sh (.bool (decide (((L.drop (at' + 1)).drop q).head? = some 34))))] = some ([.tv (.sh (.int 61))], [some (sx L), some (nx at'), some (nx (1 + q)), some (.sh (.bool (decide (((L.drop (at' + 1)).drop q).head? = some 34))))]) := by
      simp [prim, pAdd, shI]
    have ch := ev_chain c1 rfl rfl c2 (c := 61) rfl
    have an := and_b (tt_n (C := C) (ρ := [some (sx L), some (nx at'), some (nx (1 + q)), some (.sh (.bool (decide (((L.drop (at' + 1)).drop q).head? = some 34))))]) (i := 3) rfl) fun _ => ch
    have i1 : decide ((2 : Int) ≤ ((1 + q : Nat) : Int)) = decide (1 ≤ q) := decide_eq_decide.mpr (by omega)
    have i2 : decide (((1 + q : Nat) : Int) ≤ 61) = decide (q ≤ 60) := decide_eq_decide.mpr (by omega)
    rw [i1, i2] at an
    have a1 := ev_addc (C := C) (ρ := [some (sx L), some (nx at'), some (nx (1 + q)), some (.sh (.bool (decide (((L.drop (at' + 1)).drop q).head? = some 34))))]) (i := 2) (a := 1 + q) 1 1 rfl rfl
    have it := ite_b (o := nx (qsz (L.drop (at' + 1)))) (a := .op .add [.nm 2, .c (.int 1)]) (b := .c (.int 0)) an (fun e => by
      rw [a1]
      simp only [Bool.and_eq_true, decide_eq_true_eq] at e
      unfold qsz
      simp only [hq]
      rw [if_pos e, show 1 + q + 1 = q + 2 by omega]) (fun e => by
      rw [ev_c]
      have e : ¬ (((L.drop (at' + 1)).drop q).head? = some 34 ∧ 1 ≤ q ∧ q ≤ 60) := fun z => by
        rw [decide_eq_true z.1, decide_eq_true z.2.1, decide_eq_true z.2.2] at e
        cases e
      unfold qsz
      simp only [hq]
      rw [if_neg e]
      rfl)
    rw [evSs_cons, evS_ret, it]
    rfl
theorem tw_take (f : Nat → Bool) : ∀ R : List Nat, R.take (R.takeWhile f).length = R.takeWhile f
  | [] => rfl
  | c :: r => by
    rw [List.takeWhile_cons]
    split
    · simp [tw_take f r]
    · rfl
theorem f6_ok {k : Nat} (h : 3 ≤ k) (L : List Nat) (hl : L.length ≤ 50000) (at' : Nat) (ha : at' < L.length) : RF k 6 [sx L, nx at'] = some (nx (siz (L.drop at')), [sx L, nx at']) := by
  obtain ⟨k, rfl, hk⟩ := posK h
  have hg := List.getElem?_eq_getElem ha
  have hd := List.drop_eq_getElem_cons ha
  have q5 := f5_ok (k := k) (by omega) L hl at'
  have q4 := f4_ok (k := k) (by omega) L hl at'
  have q3 := f3_ok (k := k) (by omega) (runOf (L.drop at'))
  obtain ⟨n, hn⟩ : ∃ n, (runOf (L.drop at')).length = n := ⟨_, rfl⟩
  have key : ∀ s, ∃ s', evSs (RF k) f6.body [some (sx L), some (nx at'), s] = some (.rt (nx (siz (L.drop at'))) [some (sx L), some (nx at'), s']) := by
    intro s
    generalize RF k = C at *
    have i0 := ev_at (C := C) (ρ := [some (sx L), some (nx at'), s]) (L := L) (i := 0) (j := 1) (by omega) rfl rfl hg
    have e1 := ev_ins (C := C) (w := sgns) rfl i0 s_sgns
    have e2 := ev_eqs (C := C) (y := "\"") (w := [34]) rfl i0 s_q
    unfold f6
    rw [hd] at q4 q3 hn ⊢
    by_cases h1 : L[at'] ∈ sgns
    · refine ⟨s, ?_⟩
      rw [decide_eq_true h1] at e1
      rw [evSs_cons, if_tt e1]
      simp only [siz, if_pos h1]
      rfl
    · rw [decide_eq_false h1] at e1
      refine ⟨if L[at'] = 34 then s else some (nx n), ?_⟩
      rw [evSs_cons, if_ff e1, evSs_nil, thenS_nx]
      by_cases h2 : L[at'] = 34
      · rw [decide_eq_true (by rw [h2])] at e2
        rw [evSs_cons, if_tt e2, evSs_cons, evS_ret, call2s rfl rfl q5]
        simp only [siz, if_neg h1, if_pos h2]
        rfl
      · rw [decide_eq_false (by simpa using h2)] at e2
        rw [evSs_cons, if_ff e2, evSs_nil, thenS_nx]
        have c4 : evS C (.asg (.nm 2) (.call 4 [.nm 0, .nm 1])) [some (sx L), some (nx at'), s] = some (.nx [some (sx L), some (nx at'), some (nx n)]) := by
          rw [evS_asg, call2s rfl rfl q4, hn]
          rfl
        refine (seq1 c4).trans ?_
        have g0 := gt_i (C := C) (ρ := [some (sx L), some (nx at'), some (nx n)]) (i := 2) (m := n) 0 0 rfl rfl
        have ad := ev_addn (C := C) (ρ := [some (sx L), some (nx at'), some (nx n)]) (i := 1) (j := 2) (a := at') (b := n) rfl rfl
        have cu := ev_cut (C := C) (ρ := [some (sx L), some (nx at'), some (nx n)]) (L := L) (i := 0) (lo := .nm 1) (a := at') (b := at' + n) (x1 := .sl 1) (by omega) rfl rfl (by simp [rdO]) rfl ad (by omega)
        have tk : (L.drop at').take (at' + n - at') = runOf (L[at'] :: L.drop (at' + 1)) := by
          rw [Nat.add_sub_cancel_left, ← hn, hd]
          exact tw_take _ _
        rw [tk] at cu
        have rl : (runOf (L[at'] :: L.drop (at' + 1))).length ≤ 50000 := by
          have := tw_len (fun c => decide (c ∈ names)) (L[at'] :: L.drop (at' + 1))
          rw [← hd, List.length_drop] at this
          change (runOf _).length ≤ _ at this
          rw [hd] at this
          omega
        have an := and_b g0 (fun e => by
          have e := of_decide_eq_true e
          have nn : runOf (L[at'] :: L.drop (at' + 1)) ≠ [] := fun z => by rw [z] at hn; simp at hn; omega
          exact tt_b rfl (callv rfl cu (q3 rl nn)))
        have it := ite_b (o := nx (rsz (L[at'] :: L.drop (at' + 1)))) (a := .nm 2) (b := .c (.int 0)) an (fun e => by
          rw [ev_nm]
          simp only [Bool.and_eq_true, decide_eq_true_eq] at e
          have nn : runOf (L[at'] :: L.drop (at' + 1)) ≠ [] := fun z => by rw [z] at hn; simp at hn; omega
          unfold rsz
          rw [if_pos ⟨nn, e.2⟩, hn]
          rfl) (fun e => by
          rw [ev_c]
          unfold rsz
          rw [if_neg]
          · rfl
          · intro z
            have nn : 0 < n := by
              rw [← hn]
              exact List.length_pos_iff.mpr z.1
            rw [decide_eq_true nn, z.2] at e
            cases e)
        rw [evSs_cons, evS_ret, it]
        simp only [siz, if_neg h1, if_neg h2]
        rfl
  obtain ⟨s', e⟩ := key none
  exact run_rt (fd := f6) rfl rfl e rfl
end L11
end
section
set_option Elab.async false
set_option linter.all false
set_option maxRecDepth 100000
set_option maxHeartbeats 2000000
namespace L11
open PySem PySem.Spec PyProof.Rows L2 Qv
theorem tw_is {f : Nat → Bool} : ∀ (R : List Nat) (m : Nat), m ≤ R.length → (∀ j, j < m → ∀ d, R[j]? = some d → f d = true) → (∀ d, R[m]? = some d → f d = false) → (R.takeWhile f).length = m
  | [], m, h, _, _ => by simp at h; subst h; rfl
  | c :: r, 0, _, _, h => by
    rw [List.takeWhile_cons, h c rfl]
    rfl
  | c :: r, m + 1, hl, h1, h2 => by
    rw [List.takeWhile_cons, h1 0 (by omega) c rfl]
    simp only [if_true, List.length_cons]
    rw [tw_is r m (by simpa using hl) (fun j hj d hd => h1 (j + 1) (by omega) d (by simpa using hd)) (fun d hd => h2 d (by simpa using hd))]
theorem find_nl (L : List Nat) (a : Nat) (ha : a ≤ L.length) (c : Nat) : (Txt.find3 (sOf L) (sOf [c]) (a : Int) = -1 ∧ ((L.drop a).takeWhile fun d => decide (d ≠ c)).length = L.length - a ∧ c ∉ L.drop a) ∨
    (Txt.find3 (sOf L) (sOf [c]) (a : Int) = ((a + ((L.drop a).takeWhile fun d => decide (d ≠ c)).length : Nat) : Int) ∧ L[a + ((L.drop a).takeWhile fun d => decide (d ≠ c)).length]? = some c) := by
  have fi : fromIndex (sOf L).length (a : Int) = a := by
    unfold fromIndex
    rw [if_neg (by omega)]
    omega
  rcases StrLaws.find3_spec (sOf L) c (a : Int) with ⟨h1, h2⟩ | ⟨k, h1, h2, h3, h4, h5⟩
  · refine .inl ⟨h1, ?_, ?_⟩
    · rw [fi, len_sOf] at h2
      refine tw_is _ _ (by rw [List.length_drop]; omega) (fun j hj d hd => ?_) (fun d hd => ?_)
      · rw [List.getElem?_drop] at hd
        have := h2 (a + j) (by omega) (by omega)
        refine decide_eq_true fun e => this ?_
        exact StrLaws.getD_of_getElem? (by rw [tl_sOf, hd, e])
      · rw [List.getElem?_drop, List.getElem?_eq_none (by omega)] at hd
        cases hd
    · intro m
      obtain ⟨j, hj, e⟩ := List.getElem_of_mem m
      rw [List.length_drop] at hj
      rw [fi, len_sOf] at h2
      refine h2 (a + j) (by omega) (by omega) (StrLaws.getD_of_getElem? ?_)
      rw [tl_sOf]
      rw [List.getElem_drop] at e
      rw [← e]
      exact List.getElem?_eq_getElem (by omega)
  · rw [fi] at h2 h5
    rw [len_sOf] at h3
    have tk : ((L.drop a).takeWhile fun d => decide (d ≠ c)).length = k - a := by
      refine tw_is _ _ (by rw [List.length_drop]; omega) (fun j hj d hd => ?_) (fun d hd => ?_)
      · rw [List.getElem?_drop] at hd
        have := h5 (a + j) (by omega) (by omega)
        refine decide_eq_true fun e => this ?_
        exact StrLaws.getD_of_getElem? (by rw [tl_sOf, hd, e])
      · rw [List.getElem?_drop, show a + (k - a) = k by omega] at hd
        have g := StrLaws.getElem?_of_getD (x := sOf L) (by rw [len_sOf]; exact h3) h4
        rw [tl_sOf, hd] at g
        cases g
        exact decide_eq_false (by simp)
    refine .inr ?_
    rw [tk, show a + (k - a) = k by omega]
    have g := StrLaws.getElem?_of_getD (x := sOf L) (by rw [len_sOf]; exact h3) h4
    rw [tl_sOf] at g
    exact ⟨h1, g⟩
/-- z.find(c, e) -/
theorem ev_find3 {C : Cal} {ρ : Qv.Env} {L : List Nat} {i : Nat} {c : Nat} {y : Str} {e : Qv.T} {x1 : Opd} {a : Int} (h0 : ρ[i]? = some (some (sx L))) (hy : y = sOf [c]) (h1 : evOs C [e] ρ = some ([x1], ρ)) (h2 : rdO ρ x1 = some (.sh (.int a))) :
    ev C (.mth .find3 (.nm i) [.c (.str y), e]) ρ = some (.sh (.int (Txt.find3 (sOf L) (sOf [c]) a)), ρ) := by
  subst hy
  have r0 : rdOs ρ [.sl i] = some [sx L] := by simp [rdO, h0]
  have e1 : evOs C [.c (.str (sOf [c])), e] ρ = some ([.tv (sx [c]), x1], ρ) := by rw [evOs_c, h1]; rfl
  have r2 : rdO ρ (.sl i) = some (sx L) := by simp only [rdO, h0]
  have r1 : rdOs ρ [.sl i, .tv (sx [c]), x1] = some [sx L, sx [c], .sh (.int a)] := by
    simp only [rdOs_cons, rdOs_nil, r2, h2, rdO_tv, Option.bind_some, flat_sh, if_true]
  simp only [ev, isNm, r0, mtyp, if_true, e1, r1, prim, pFind3, shI]
theorem f7_ok {k : Nat} (h : 1 ≤ k) (L : List Nat) (hl : L.length ≤ 50000) (a : Nat) (ha : a ≤ L.length) : RF k 7 [sx L, nx a] = some (nx (a + ((L.drop a).takeWhile fun d => decide (d ≠ 10)).length), [sx L, nx a]) := by
  obtain ⟨k, rfl, _⟩ := posK h
  have key : ∀ s, ∃ s', evSs (RF k) f7.body [some (sx L), some (nx a), s] = some (.rt (nx (a + ((L.drop a).takeWhile fun d => decide (d ≠ 10)).length)) [some (sx L), some (nx a), s']) := by
    intro s
    generalize RF k = C
    have fd := ev_find3 (C := C) (ρ := [some (sx L), some (nx a), s]) (L := L) (i := 0) (c := 10) (y := "\n") (e := .nm 1) (x1 := .sl 1) (a := (a : Int)) rfl s_nl (by simp [rdO]) rfl
    refine ⟨some (.sh (.int (Txt.find3 (sOf L) (sOf [10]) (a : Int)))), ?_⟩
    unfold f7
    refine (seq1 (ρ1 := [some (sx L), some (nx a), some (.sh (.int (Txt.find3 (sOf L) (sOf [10]) (a : Int))))]) ?_).trans ?_
    · rw [evS_asg, fd]
      rfl
    have lt : ev C (.op .lt [.nm 2, .c (.int 0)]) [some (sx L), some (nx a), some (.sh (.int (Txt.find3 (sOf L) (sOf [10]) (a : Int))))] = some (.sh (.bool (decide (Txt.find3 (sOf L) (sOf [10]) (a : Int) < 0))), [some (sx L), some (nx a), some (.sh (.int (Txt.find3 (sOf L) (sOf [10]) (a : Int))))]) := by
      simp [rdO, prim, pCmp, shB]
    have ln := ev_len (C := C) (ρ := [some (sx L), some (nx a), some (.sh (.int (Txt.find3 (sOf L) (sOf [10]) (a : Int))))]) (L := L) (i := 0) (by omega) rfl
    rw [evSs_cons, evS_ret, ev_ite, lt]
    rcases find_nl L a ha 10 with ⟨h1, h2, _⟩ | ⟨h1, _⟩
    · rw [h1] at ln ⊢
      rw [decide_eq_true (by decide), onB_t, ln, h2, show a + (L.length - a) = L.length by omega]
      rfl
    · rw [h1, decide_eq_false (by omega), onB_f, ev_nm]
      rfl
  obtain ⟨s', e⟩ := key none
  exact run_rt (fd := f7) rfl rfl e rfl
/-! ### the words, as data -/
def tokD (t : Tok) : PyData := .tuple [.str (sOf t.1), .int t.2.1, .int t.2.2]
def pairD (w : Nat × Nat) : PyData := .tuple [.int w.1, .int w.2]
def wrD : Option (Nat × Nat) → PyData
  | none => .none
  | some w => pairD w
abbrev E8 (L : List Nat) (acc : List PyData) (line beg a : Nat) (s5 : Option O) : Qv.Env := [some (sx L), some (olOf acc), some (nx line), some (nx beg), some (nx a), s5]
def c8 : Qv.T := .op .lt [.nm 4, .op .len [.nm 0]]
def body8 : List Qv.S := [.ite (.op .eq [.op .item [.nm 0, .nm 4], .c (.str "\n")]) [.par [2, 3, 4] [.op .add [.nm 2, .c (.int 1)], .op .add [.nm 4, .c (.int 1)], .op .add [.nm 4, .c (.int 1)]]] [.ite (.op .eq [.op .item [.nm 0, .nm 4], .c (.str " ")]) [.asg (.nm 4) (.op .add [.nm 4, .c (.int 1)])] [.ite (.op .eq [.op .item [.nm 0, .nm 4], .c (.str "#")]) [.asg (.nm 4) (.call 7 [.nm 0, .nm 4])] [.asg (.nm 5) (.call 6 [.nm 0, .nm 4]),
    .ite (.op .eq [.nm 5, .c (.int 0)]) [.ret (.tupo [.mv 1, .tup [.nm 2, .op .sub [.nm 4, .nm 3]], .tup [.nm 2, .op .sub [.nm 4, .nm 3]]])] [],
    .ex (.app 1 (.tup [.sl [.nm 0] [.nm 4] [.op .add [.nm 4, .nm 5]], .nm 2, .op .sub [.nm 4, .nm 3]])),
    .asg (.nm 4) (.op .add [.nm 4, .nm 5])]]]]
theorem body8_eq : f8.body = [.asg (.tp [.nm 1, .nm 2, .nm 3, .nm 4]) (.tupo [.lst [], .c (.int 0), .c (.int 0), .c (.int 0)]), .wh c8 body8, .ret (.tupo [.mv 1, .c (.none), .tup [.nm 2, .op .sub [.nm 4, .nm 3]]])] := rfl
def Out8 (L : List Nat) (acc : List PyData) (q : Res) (r : Option Out) : Prop := match q.2 with
  | none => ∃ (line beg a : Nat) (s5 : Option O), beg ≤ a ∧ r = some (.nx (E8 L (acc ++ q.1.map tokD) line beg a s5))
  | some w => ∃ ρ' : Qv.Env, r = some (.rt (.ot [olOf (acc ++ q.1.map tokD), .sh (pairD w), .sh (pairD w)]) (some (sx L) :: ρ'))
theorem Out8.cons {L : List Nat} {acc : List PyData} {t : Tok} {q : Res} {r : Option Out} (h : Out8 L (acc ++ [tokD t]) q r) : Out8 L acc (consR t q) r := by
  obtain ⟨ts, w⟩ := q
  cases w with
  | none =>
    obtain ⟨l, b, a, s5, h1, h2⟩ := h
    exact ⟨l, b, a, s5, h1, by rw [h2, consR, List.map_cons, List.append_assoc]; rfl⟩
  | some w =>
    obtain ⟨ρ', h⟩ := h
    exact ⟨ρ', by rw [h, consR, List.map_cons, List.append_assoc]; rfl⟩
theorem dw_drop (f : Nat → Bool) : ∀ r : List Nat, r.drop (r.takeWhile f).length = r.dropWhile f
  | [] => rfl
  | c :: r => by
    rw [List.takeWhile_cons, List.dropWhile_cons]
    split
    · simp [dw_drop f r]
    · rfl
structure Subs (C : Cal) (L : List Nat) : Prop where
  c6 : ∀ a, a < L.length → C 6 [sx L, nx a] = some (nx (siz (L.drop a)), [sx L, nx a])
  c7 : ∀ a, a ≤ L.length → C 7 [sx L, nx a] = some (nx (a + ((L.drop a).takeWhile fun d => decide (d ≠ 10)).length), [sx L, nx a])
section
variable {C : Cal} {L : List Nat} {acc : List PyData} {line beg a : Nat} {s5 : Option O}
theorem cond8 (hl : L.length ≤ 50000) : ev C c8 (E8 L acc line beg a s5) = some (.sh (.bool (decide (a < L.length))), E8 L acc line beg a s5) := by
  have ln := ev_len (C := C) (ρ := E8 L acc line beg a s5) (L := L) (i := 0) (by omega) rfl
  have e : decide ((a : Int) < (L.length : Int)) = decide (a < L.length) := decide_eq_decide.mpr (by omega)
  unfold c8
  rw [ev_op, evOs_nm]
  simp only [rdO, List.getElem?_cons_succ, List.getElem?_cons_zero, Option.bind_some]
  rw [evOs_op, ln]
  simp [rdO, prim, pCmp, e, shB]
theorem sub8 (hb : beg ≤ a) : ev C (.op .sub [.nm 4, .nm 3]) (E8 L acc line beg a s5) = some (.sh (.int ((a - beg : Nat) : Int)), E8 L acc line beg a s5) := by
  have e : (a : Int) - (beg : Int) = ((a - beg : Nat) : Int) := by omega
  simp [rdO, prim, i2, shI, e]
theorem pair8 (hb : beg ≤ a) : ev C (.tup [.nm 2, .op .sub [.nm 4, .nm 3]]) (E8 L acc line beg a s5) = some (.sh (pairD (line, a - beg)), E8 L acc line beg a s5) := by
  rw [ev_tup, evs_cons, ev_nm]
  simp only [rdV, List.getElem?_cons_succ, List.getElem?_cons_zero, Option.bind_some]
  rw [evs_cons, sub8 hb]
  rfl
theorem loop8 (D : Subs C L) (hl : L.length ≤ 50000) : ∀ (n a line beg : Nat) (acc : List PyData) (s5 : Option O), L.length - a ≤ n → a ≤ L.length → beg ≤ a → acc.length ≤ a → Out8 L acc (Wf (L.drop a) line (a - beg)) (evS C (.wh c8 body8) (E8 L acc line beg a s5))
  | n, a, line, beg, acc, s5, hn, ha, hb, hc => by
    have cd := cond8 (C := C) (acc := acc) (line := line) (beg := beg) (a := a) (s5 := s5) hl
    by_cases hlt : a < L.length
    · rw [decide_eq_true hlt] at cd
      match n with
      | 0 => omega
      | n + 1 =>
        have hg := List.getElem?_eq_getElem hlt
        have hd := List.drop_eq_getElem_cons hlt
        have i0 := ev_at (C := C) (ρ := E8 L acc line beg a s5) (L := L) (i := 0) (j := 4) (by omega) rfl rfl hg
        have e1 := ev_eqs (C := C) (y := "\n") (w := [10]) rfl i0 s_nl
        have e2 := ev_eqs (C := C) (y := " ") (w := [32]) rfl i0 s_sp
        have e3 := ev_eqs (C := C) (y := "#") (w := [35]) rfl i0 s_rm
        by_cases h1 : L[a] = 10
        · rw [decide_eq_true (by rw [h1])] at e1
          have st : evSs C body8 (E8 L acc line beg a s5) = some (.nx (E8 L acc (line + 1) (a + 1) (a + 1) s5)) := by
            have p1 := ev_addc (C := C) (ρ := E8 L acc line beg a s5) (i := 2) (a := line) 1 1 rfl rfl
            have p2 := ev_addc (C := C) (ρ := E8 L acc line beg a s5) (i := 4) (a := a) 1 1 rfl rfl
            unfold body8
            rw [evSs_cons, if_tt e1, evSs_cons, evS_par, evs_cons, p1]
            simp only [Option.bind_some]
            rw [evs_cons, p2]
            simp only [Option.bind_some]
            rw [evs_cons, p2]
            rfl
          rw [wh_t cd st, hd, h1, Wf_nl]
          have ih := loop8 D hl n (a + 1) (line + 1) (a + 1) acc s5 (by omega) (by omega) (Nat.le_refl _) (by omega)
          rwa [Nat.sub_self] at ih
        · rw [decide_eq_false (by simpa using h1)] at e1
          by_cases h2 : L[a] = 32
          · rw [decide_eq_true (by rw [h2])] at e2
            have st : evSs C body8 (E8 L acc line beg a s5) = some (.nx (E8 L acc line beg (a + 1) s5)) := by
              have p2 := ev_addc (C := C) (ρ := E8 L acc line beg a s5) (i := 4) (a := a) 1 1 rfl rfl
              unfold body8
              rw [evSs_cons, if_ff e1, evSs_cons, if_tt e2, evSs_cons, evS_asg, p2]
              rfl
            rw [wh_t cd st, hd, h2, Wf_sp]
            have ih := loop8 D hl n (a + 1) line beg acc s5 (by omega) (by omega) (by omega) (by omega)
            rwa [show a + 1 - beg = a - beg + 1 by omega] at ih
          · rw [decide_eq_false (by simpa using h2)] at e2
            by_cases h3 : L[a] = 35
            · rw [decide_eq_true (by rw [h3])] at e3
              obtain ⟨t, ht⟩ : ∃ t, ((L.drop (a + 1)).takeWhile fun d => decide (d ≠ 10)).length = t := ⟨_, rfl⟩
              have tl' : ((L.drop a).takeWhile fun d => decide (d ≠ 10)).length = t + 1 := by
                rw [hd, List.takeWhile_cons, h3]
                simp [← ht]
              have c7 := D.c7 a ha
              rw [tl'] at c7
              have st : evSs C body8 (E8 L acc line beg a s5) = some (.nx (E8 L acc line beg (a + (t + 1)) s5)) := by
                unfold body8
                rw [evSs_cons, if_ff e1, evSs_cons, if_ff e2, evSs_cons, if_tt e3, evSs_cons, evS_asg, call2s rfl rfl c7]
                rfl
              have tle : t ≤ (L.drop (a + 1)).length := by rw [← ht]; exact tw_len _ _
              rw [List.length_drop] at tle
              rw [wh_t cd st, hd, h3, Wf_rem, ht]
              have ih := loop8 D hl n (a + (t + 1)) line beg acc s5 (by omega) (by omega) (by omega) (by omega)
              rw [show a + (t + 1) - beg = a - beg + 1 + t by omega] at ih
              have dd : L.drop (a + (t + 1)) = (L.drop (a + 1)).dropWhile fun d => decide (d ≠ 10) := by
                rw [← dw_drop, ht, List.drop_drop]
                congr 1
                omega
              rwa [dd] at ih
            · rw [decide_eq_false (by simpa using h3)] at e3
              have c6 := D.c6 a hlt
              have sle := siz_le (L.drop a)
              rw [List.length_drop] at sle
              have as : evS C (.asg (.nm 5) (.call 6 [.nm 0, .nm 4])) (E8 L acc line beg a s5) = some (.nx (E8 L acc line beg a (some (nx (siz (L.drop a)))))) := by
                rw [evS_asg, call2s rfl rfl c6]
                rfl
              have z0 := eq_i (C := C) (ρ := E8 L acc line beg a (some (nx (siz (L.drop a))))) (i := 5) (m := siz (L.drop a)) 0 0 rfl rfl
              by_cases h4 : siz (L.drop a) = 0
              · rw [decide_eq_true h4] at z0
                have st : evSs C body8 (E8 L acc line beg a s5) = some (.rt (.ot [olOf acc, .sh (pairD (line, a - beg)), .sh (pairD (line, a - beg))]) [some (sx L), none, some (nx line), some (nx beg), some (nx a), some (nx (siz (L.drop a)))]) := by
                  have pr : ∀ s1, ev C (.tup [.nm 2, .op .sub [.nm 4, .nm 3]]) [some (sx L), s1, some (nx line), some (nx beg), some (nx a), some (nx (siz (L.drop a)))] = some (.sh (pairD (line, a - beg)), [some (sx L), s1, some (nx line), some (nx beg), some (nx a), some (nx (siz (L.drop a)))]) := fun s1 => by
                    have e : (a : Int) - (beg : Int) = ((a - beg : Nat) : Int) := by omega
                    simp [rdV, rdO, prim, i2, shI, e, pairD]
                  unfold body8
                  rw [evSs_cons, if_ff e1, evSs_cons, if_ff e2, evSs_cons, if_ff e3]
                  rw [seq1 as, evSs_cons, if_tt z0, evSs_cons, evS_ret, ev_tupo, evs_cons, ev_mv]
                  simp only [mvV, List.getElem?_cons_succ, List.getElem?_cons_zero, Option.bind_some, List.set_cons_succ, List.set_cons_zero]
                  rw [evs_cons, pr]
                  simp only [Option.bind_some]
                  rw [evs_cons, pr]
                  rfl
                have h4' : siz (L[a] :: L.drop (a + 1)) = 0 := by rw [← hd]; exact h4
                rw [wh_r cd st, hd, Wf_wrong h1 h2 h3 h4']
                exact ⟨_, by rw [List.map_nil, List.append_nil]⟩
              · rw [decide_eq_false h4] at z0
                have ad := ev_addn (C := C) (ρ := E8 L acc line beg a (some (nx (siz (L.drop a))))) (i := 4) (j := 5) (a := a) (b := siz (L.drop a)) rfl rfl
                have cu := ev_cut (C := C) (ρ := E8 L acc line beg a (some (nx (siz (L.drop a))))) (L := L) (i := 0) (lo := .nm 4) (a := a) (b := a + siz (L.drop a)) (x1 := .sl 4) (by omega) rfl rfl (by simp [rdO]) rfl ad (by omega)
                rw [Nat.add_sub_cancel_left] at cu
                have tu : ev C (.tup [.sl [.nm 0] [.nm 4] [.op .add [.nm 4, .nm 5]], .nm 2, .op .sub [.nm 4, .nm 3]]) (E8 L acc line beg a (some (nx (siz (L.drop a))))) = some (.sh (tokD ((L.drop a).take (siz (L.drop a)), line, a - beg)), E8 L acc line beg a (some (nx (siz (L.drop a))))) := by
                  rw [ev_tup, evs_cons, cu]
                  simp only [Option.bind_some]
                  rw [evs_cons, ev_nm]
                  simp only [rdV, List.getElem?_cons_succ, List.getElem?_cons_zero, Option.bind_some]
                  rw [evs_cons, sub8 hb]
                  rfl
                have ap : ev C (.app 1 (.tup [.sl [.nm 0] [.nm 4] [.op .add [.nm 4, .nm 5]], .nm 2, .op .sub [.nm 4, .nm 3]])) (E8 L acc line beg a (some (nx (siz (L.drop a))))) = some (.sh .none, E8 L (acc ++ [tokD ((L.drop a).take (siz (L.drop a)), line, a - beg)]) line beg a (some (nx (siz (L.drop a))))) := by
                  rw [app_of (C := C) (i := 1) (os0 := acc.map O.sh) (os := acc.map O.sh) rfl tu rfl (Nat.lt_of_lt_of_le (show _ < 1000001 by rw [List.length_map]; omega) (by decide))]
                  have e5 : (acc.map O.sh) ++ [O.sh (O.sh (tokD ((L.drop a).take (siz (L.drop a)), line, a - beg))).d] = (acc ++ [tokD ((L.drop a).take (siz (L.drop a)), line, a - beg)]).map O.sh := by simp
                  rw [e5]
                  rfl
                have ad2 := ev_addn (C := C) (ρ := E8 L (acc ++ [tokD ((L.drop a).take (siz (L.drop a)), line, a - beg)]) line beg a (some (nx (siz (L.drop a))))) (i := 4) (j := 5) (a := a) (b := siz (L.drop a)) rfl rfl
                have st : evSs C body8 (E8 L acc line beg a s5) = some (.nx (E8 L (acc ++ [tokD ((L.drop a).take (siz (L.drop a)), line, a - beg)]) line beg (a + siz (L.drop a)) (some (nx (siz (L.drop a)))))) := by
                  unfold body8
                  rw [evSs_cons, if_ff e1, evSs_cons, if_ff e2, evSs_cons, if_ff e3]
                  rw [seq1 as, evSs_cons, if_ff z0, evSs_nil, thenS_nx]
                  rw [evSs_cons, evS_ex, ap]
                  simp only [Option.bind_some, thenS_nx]
                  rw [evSs_cons, evS_asg, ad2]
                  rfl
                rw [wh_t cd st]
                have ih := loop8 D hl n (a + siz (L.drop a)) line beg (acc ++ [tokD ((L.drop a).take (siz (L.drop a)), line, a - beg)]) (some (nx (siz (L.drop a)))) (by omega) (by omega) (by omega) (by rw [List.length_append, List.length_singleton]; omega)
                have h4' : siz (L[a] :: L.drop (a + 1)) ≠ 0 := by rw [← hd]; exact h4
                rw [hd, Wf_word h1 h2 h3 h4', ← hd]
                refine Out8.cons ?_
                rw [List.drop_drop, show a - beg + siz (L.drop a) = a + siz (L.drop a) - beg by omega]
                exact ih
    · rw [decide_eq_false hlt] at cd
      rw [wh_f cd, List.drop_eq_nil_of_le (by omega), Wf_nil]
      exact ⟨line, beg, a, s5, hb, by rw [List.map_nil, List.append_nil]⟩
end
end L11
end
section
set_option Elab.async false
set_option linter.all false
set_option maxRecDepth 100000
set_option maxHeartbeats 2000000
namespace L11
open PySem PySem.Spec PyProof.Rows L2 Qv
def toks (L : List Nat) : List PyData := (Wf L 0 0).1.map tokD
def wrong (L : List Nat) : PyData := wrD (Wf L 0 0).2
theorem subs {k : Nat} (h : 3 ≤ k) {L : List Nat} (hl : L.length ≤ 50000) : Subs (RF k) L := ⟨fun a ha => f6_ok h L hl a ha, fun a ha => f7_ok (by omega) L hl a ha⟩
theorem f8_ok {k : Nat} (h : 4 ≤ k) (L : List Nat) (hl : L.length ≤ 50000) : ∃ e, RF k 8 [sx L] = some (.ot [olOf (toks L), .sh (wrong L), .sh e], [sx L]) := by
  obtain ⟨k, rfl, hk⟩ := posK h
  have lp := loop8 (subs hk hl) hl L.length 0 0 0 [] none (by omega) (by omega) (by omega) (by simp)
  rw [List.drop_zero, Nat.sub_self] at lp
  have st : evS (RF k) (.asg (.tp [.nm 1, .nm 2, .nm 3, .nm 4]) (.tupo [.lst [], .c (.int 0), .c (.int 0), .c (.int 0)])) [some (sx L), none, none, none, none, none] = some (.nx (E8 L [] 0 0 0 none)) := by
    rw [evS_asg]
    simp
    simp only [bindTa, bindTas]
    rfl
  unfold toks wrong
  cases q : (Wf L 0 0).2 with
  | none =>
    unfold Out8 at lp
    rw [q] at lp
    obtain ⟨line, beg, a, s5, hb, e⟩ := lp
    rw [List.nil_append] at e
    refine ⟨pairD (line, a - beg), run_rt (fd := f8) (ρ := [some (sx L), none, some (nx line), some (nx beg), some (nx a), s5]) rfl rfl ?_ rfl⟩
    show evSs (RF k) f8.body [some (sx L), none, none, none, none, none] = _
    generalize RF k = C at *
    rw [body8_eq, seq1 st, seq1 e]
    have pr : ∀ s1, ev C (.tup [.nm 2, .op .sub [.nm 4, .nm 3]]) [some (sx L), s1, some (nx line), some (nx beg), some (nx a), s5] = some (.sh (pairD (line, a - beg)), [some (sx L), s1, some (nx line), some (nx beg), some (nx a), s5]) := fun s1 => by
      have e : (a : Int) - (beg : Int) = ((a - beg : Nat) : Int) := by omega
      simp [rdV, rdO, prim, i2, shI, e, pairD]
    rw [evSs_cons, evS_ret, ev_tupo, evs_cons, ev_mv]
    simp only [mvV, List.getElem?_cons_succ, List.getElem?_cons_zero, Option.bind_some, List.set_cons_succ, List.set_cons_zero]
    rw [evs_cons, ev_c]
    simp only [Option.bind_some]
    rw [evs_cons, pr]
    rfl
  | some w =>
    unfold Out8 at lp
    rw [q] at lp
    obtain ⟨ρ', e⟩ := lp
    rw [List.nil_append] at e
    refine ⟨pairD w, run_rt (fd := f8) (ρ := some (sx L) :: ρ') rfl rfl ?_ rfl⟩
    show evSs (RF k) f8.body [some (sx L), none, none, none, none, none] = _
    generalize RF k = C at *
    rw [body8_eq, seq1 st, seqR e]
    rfl
theorem f9_ok {k : Nat} (h : 1 ≤ k) (ds : List PyData) (hl : ds.length ≤ 8000) : RF k 9 [olOf ds] = some (.sh .none, [olOf ds]) := by
  obtain ⟨k, rfl, _⟩ := posK h
  refine run_nx (fd := f9) (ρ := [some (olOf ds)]) rfl rfl ?_ rfl
  show evSs (RF k) f9.body [some (olOf ds)] = _
  generalize RF k = C
  have ln : ev C (.op .len [.nm 0]) [some (olOf ds)] = some (.sh (.int (ds.length : Int)), [some (olOf ds)]) := by
    simp [rdO, prim, u1, len_ol, shI]
  have c : ev C (.op .gt [.op .len [.nm 0], .c (.int 8000)]) [some (olOf ds)] = some (.sh (.bool false), [some (olOf ds)]) := by
    rw [(ev_cmp rfl rfl ln (by rw [ev_c])).2.2, decide_eq_false (by omega)]
  unfold f9
  rw [evSs_cons, if_ff c, evSs_nil]
  rfl
theorem toks_len {L : List Nat} (hl : L.length ≤ 8000) : (toks L).length ≤ 8000 := by
  have := (W_ok L (L.length) L.length L 0 0 (Nat.le_refl _) (fun _ h => h) (by omega) (by omega)).1
  unfold toks
  rw [List.length_map]
  omega
theorem f10_ok {k : Nat} (h : 5 ≤ k) (L : List Nat) (hl : L.length ≤ 8000) : RF k 10 [sx L] = some (olOf (toks L), [sx L]) := by
  obtain ⟨k, rfl, hk⟩ := posK h
  refine run_rt (fd := f10) (ρ := [some (sx L), none]) rfl rfl ?_ rfl
  show evSs (RF k) f10.body [some (sx L), none] = _
  have q1 := f1_ok (k := k) (by omega) L (by omega)
  obtain ⟨e3, q8⟩ := f8_ok (k := k) hk L (by omega)
  have q9 := f9_ok (k := k) (by omega) (toks L) (toks_len hl)
  generalize RF k = C at *
  unfold f10
  have s1 : evS C (.ex (.call 1 [.nm 0])) [some (sx L), none] = some (.nx [some (sx L), none]) := by
    rw [evS_ex, call1s rfl q1]
    rfl
  have s2 : evS C (.asg (.nm 1) (.prj (.call 8 [.nm 0]) 0)) [some (sx L), none] = some (.nx [some (sx L), some (olOf (toks L))]) := by
    have e : ev C (.prj (.call 8 [.nm 0]) 0) [some (sx L), none] = some (olOf (toks L), [some (sx L), none]) := by
      have e0 : ev C (.call 8 [.nm 0]) [some (sx L), none] = _ := call1s rfl q8
      simp only [ev] at e0 ⊢
      rw [e0]
      rfl
    rw [evS_asg, e]
    rfl
  have s3 : evS C (.ex (.call 9 [.nm 1])) [some (sx L), some (olOf (toks L))] = some (.nx [some (sx L), some (olOf (toks L))]) := by
    have e : ev C (.call 9 [.nm 1]) [some (sx L), some (olOf (toks L))] = some (.sh .none, [some (sx L), some (olOf (toks L))]) := by
      have ld : lend [.sl 1] [some (sx L), some (olOf (toks L))] = some ([olOf (toks L)], [some (sx L), none]) := rfl
      simp only [ev_call, evOs_nm, evOs_nil, rdO, List.getElem?_cons_succ, List.getElem?_cons_zero, Option.bind_some, ld, q9]
      rfl
    rw [evS_ex, e]
    rfl
  rw [seq1 s1, seq1 s2, seq1 s3, evSs_cons, evS_ret, ev_mv]
  rfl
theorem f11_ok {k : Nat} (h : 5 ≤ k) (L : List Nat) (hl : L.length ≤ 8000) : RF k 11 [sx L] = some (.sh (wrong L), [sx L]) := by
  obtain ⟨k, rfl, hk⟩ := posK h
  refine run_rt (fd := f11) (ρ := [some (sx L)]) rfl rfl ?_ rfl
  show evSs (RF k) f11.body [some (sx L)] = _
  have q1 := f1_ok (k := k) (by omega) L (by omega)
  obtain ⟨e3, q8⟩ := f8_ok (k := k) hk L (by omega)
  generalize RF k = C at *
  unfold f11
  have s1 : evS C (.ex (.call 1 [.nm 0])) [some (sx L)] = some (.nx [some (sx L)]) := by
    rw [evS_ex, call1s rfl q1]
    rfl
  have e : ev C (.prj (.call 8 [.nm 0]) 1) [some (sx L)] = some (.sh (wrong L), [some (sx L)]) := by
    have e0 : ev C (.call 8 [.nm 0]) [some (sx L)] = _ := call1s rfl q8
    simp only [ev] at e0 ⊢
    rw [e0]
    rfl
  rw [seq1 s1, evSs_cons, evS_ret, e]
  rfl
end L11
end
section
set_option Elab.async false
set_option linter.all false
set_option maxRecDepth 100000
set_option maxHeartbeats 2000000
namespace L11
open PySem PySem.Spec PyProof.Rows L2 Qv
theorem tw_whole {f : Nat → Bool} {d : Nat} (hd : f d = false) (rest : List Nat) : ∀ I : List Nat, I.all f = true → (I ++ d :: rest).takeWhile f = I
  | [], _ => by simp [List.takeWhile, hd]
  | c :: r, h => by
    rw [List.all_cons, Bool.and_eq_true] at h
    rw [List.cons_append, List.takeWhile_cons, if_pos h.1, tw_whole hd rest r h.2]
theorem tw_full {f : Nat → Bool} : ∀ I : List Nat, (I.takeWhile f).length = I.length → I.all f = true
  | [], _ => rfl
  | c :: r, h => by
    rw [List.takeWhile_cons] at h
    split at h
    · rename_i hc
      rw [List.all_cons, hc, tw_full r (by simpa using h)]
      rfl
    · simp at h
theorem mem_tw {f : Nat → Bool} {c : Nat} : ∀ {r : List Nat}, c ∈ r.takeWhile f → f c = true
  | [], m => by cases m
  | d :: r, m => by
    rw [List.takeWhile_cons] at m
    split at m
    · rename_i h
      rcases List.mem_cons.mp m with rfl | m
      · exact h
      · exact mem_tw m
    · cases m
theorem qsz_none {R : List Nat} (h : 34 ∉ R) : qsz R = 0 := by
  unfold qsz
  simp only
  rw [if_neg]
  intro z
  have := List.mem_of_mem_head? (by rw [z.1]; rfl)
  exact h (List.mem_of_mem_drop this)
theorem qsz_found {I rest : List Nat} (h : 34 ∉ I) : qsz (I ++ 34 :: rest) = if (decide (1 ≤ I.length) && decide (I.length ≤ 60) && I.all fun c => decide (c ∈ lsp)) = true then I.length + 2 else 0 := by
  unfold qsz
  rcases Bool.eq_false_or_eq_true (I.all fun c => decide (c ∈ lsp)) with ha | ha
  · rw [tw_whole (by decide) rest I ha, ha]
    simp only [List.drop_left, List.head?_cons, true_and, Bool.and_true, Bool.and_eq_true, decide_eq_true_eq]
  · rw [tw_app (by decide) rest I, ha]
    simp only [Bool.and_false, Bool.false_eq_true, if_false]
    have hl := tw_len (fun c => decide (c ∈ lsp)) I
    have hn : (I.takeWhile fun c => decide (c ∈ lsp)).length ≠ I.length := fun e => by
      rw [tw_full I e] at ha
      cases ha
    generalize (I.takeWhile fun c => decide (c ∈ lsp)).length = q at *
    rw [if_neg]
    intro z
    have z := z.1
    rw [List.drop_append_of_le_length hl, List.drop_eq_getElem_cons (by omega)] at z
    simp only [List.cons_append, List.head?_cons, Option.some.injEq] at z
    exact h (by rw [← z]; exact List.getElem_mem _)
theorem names_split {c : Nat} (h : c ∈ names) : decide (c ∈ lets) = !decide (c ∈ figs) := by
  have a : ∀ c ∈ names, decide (c ∈ lets) = !decide (c ∈ figs) := by decide +kernel
  exact a c h
abbrev E15 (L : List Nat) (a : Nat) (s2 s3 s4 s5 s6 s7 : Option O) : Qv.Env := [some (sx L), some (nx a), s2, s3, s4, s5, s6, s7, none]
section
variable {C : Cal} {L : List Nat} {a : Nat}
theorem quote15 (hl : L.length ≤ 50000) (ha : a < L.length) : ∃ ρ', evSs C [.asg (.nm 2) (.mth .find3 (.nm 0) [.c (.str "\""), .op .add [.nm 1, .c (.int 1)]]),
    .asg (.nm 3) (.ite (.op .gt [.nm 2, .nm 1]) (.sl [.nm 0] [.op .add [.nm 1, .c (.int 1)]] [.nm 2]) (.c (.str ""))),
    .ret (.ite (.and2 (.chain .le .le [.c (.int 1), .op .len [.nm 3]] [.c (.int 60)]) (.tt (.op .all [.lc [8] (.nm 8) .sq [.nm 3] [] (.op .isin [.nm 8, .c (.str "abcdefghijklmnopqrstuvwxyz ")])]))) (.op .add [.op .len [.nm 3], .c (.int 2)]) (.c (.int 0)))] (E15 L a none none none none none none) =
      some (.rt (nx (qsz (L.drop (a + 1)))) (some (sx L) :: some (nx a) :: ρ')) := by
  have p1 := ev_addc (C := C) (ρ := E15 L a none none none none none none) (i := 1) (a := a) 1 1 rfl rfl
  have fd := ev_find3 (C := C) (ρ := E15 L a none none none none none none) (L := L) (i := 0) (c := 34) (y := "\"") (e := .op .add [.nm 1, .c (.int 1)]) (x1 := .tv (.sh (.int ((a + 1 : Nat) : Int)))) (a := ((a + 1 : Nat) : Int)) rfl s_q (by rw [evOs_op, p1]; rfl) rfl
  obtain ⟨e2, he2⟩ : ∃ z : Int, Txt.find3 (sOf L) (sOf [34]) ((a + 1 : Nat) : Int) = z := ⟨_, rfl⟩
  rw [he2] at fd
  have s1 : evS C (.asg (.nm 2) (.mth .find3 (.nm 0) [.c (.str "\""), .op .add [.nm 1, .c (.int 1)]])) (E15 L a none none none none none none) = some (.nx (E15 L a (some (.sh (.int e2))) none none none none none)) := by
    rw [evS_asg, fd]
    rfl
  have gt : ev C (.op .gt [.nm 2, .nm 1]) (E15 L a (some (.sh (.int e2))) none none none none none) = some (.sh (.bool (decide ((a : Int) < e2))), E15 L a (some (.sh (.int e2))) none none none none none) := by
    simp [rdO, prim, pCmp, shB]
  have fin : ∀ (I : List Nat), I.length ≤ 50000 → ev C (.ite (.op .gt [.nm 2, .nm 1]) (.sl [.nm 0] [.op .add [.nm 1, .c (.int 1)]] [.nm 2]) (.c (.str ""))) (E15 L a (some (.sh (.int e2))) none none none none none) = some (sx I, E15 L a (some (.sh (.int e2))) none none none none none) →
      qsz (L.drop (a + 1)) = (if (decide (1 ≤ I.length) && decide (I.length ≤ 60) && I.all fun c => decide (c ∈ lsp)) = true then I.length + 2 else 0) →
      evSs C [.asg (.nm 2) (.mth .find3 (.nm 0) [.c (.str "\""), .op .add [.nm 1, .c (.int 1)]]),
    .asg (.nm 3) (.ite (.op .gt [.nm 2, .nm 1]) (.sl [.nm 0] [.op .add [.nm 1, .c (.int 1)]] [.nm 2]) (.c (.str ""))),
    .ret (.ite (.and2 (.chain .le .le [.c (.int 1), .op .len [.nm 3]] [.c (.int 60)]) (.tt (.op .all [.lc [8] (.nm 8) .sq [.nm 3] [] (.op .isin [.nm 8, .c (.str "abcdefghijklmnopqrstuvwxyz ")])]))) (.op .add [.op .len [.nm 3], .c (.int 2)]) (.c (.int 0)))] (E15 L a none none none none none none) =
      some (.rt (nx (qsz (L.drop (a + 1)))) (E15 L a (some (.sh (.int e2))) (some (sx I)) none none none none)) := fun I hI hev hq => by
    have s2 : evS C (.asg (.nm 3) (.ite (.op .gt [.nm 2, .nm 1]) (.sl [.nm 0] [.op .add [.nm 1, .c (.int 1)]] [.nm 2]) (.c (.str "")))) (E15 L a (some (.sh (.int e2))) none none none none none) = some (.nx (E15 L a (some (.sh (.int e2))) (some (sx I)) none none none none)) := by
      rw [evS_asg, hev]
      rfl
    have ch := chain_len (C := C) (ρ := E15 L a (some (.sh (.int e2))) (some (sx I)) none none none none) (i := 3) (L := I) 1 60 1 60 rfl rfl (by omega) rfl
    have al := ev_allin (C := C) (ρ := E15 L a (some (.sh (.int e2))) (some (sx I)) none none none none) (L := I) (i := 3) (n := 8) (ws := []) (ρ1 := []) (by omega) rfl (by simp) rfl s_lsp
    have an := and_b ch fun _ => tt_b rfl al
    have ln := ev_len (C := C) (ρ := E15 L a (some (.sh (.int e2))) (some (sx I)) none none none none) (L := I) (i := 3) (by omega) rfl
    have ad : ev C (.op .add [.op .len [.nm 3], .c (.int 2)]) (E15 L a (some (.sh (.int e2))) (some (sx I)) none none none none) = some (nx (I.length + 2), E15 L a (some (.sh (.int e2))) (some (sx I)) none none none none) := by
      rw [ev_op, evOs_op, ln]
      simp [prim, pAdd, shI]
    have it := ite_b (o := nx (qsz (L.drop (a + 1)))) (a := .op .add [.op .len [.nm 3], .c (.int 2)]) (b := .c (.int 0)) an (fun e => by rw [ad, hq, if_pos e]) (fun e => by rw [ev_c, hq, if_neg (by rw [e]; decide)]; rfl)
    rw [seq1 s1, seq1 s2, evSs_cons, evS_ret, it]
    rfl
  rcases find_nl L (a + 1) (by omega) 34 with ⟨h1, _, h3⟩ | ⟨h1, h2⟩
  · rw [he2] at h1
    subst h1
    refine ⟨_, fin [] (by simp) ?_ ?_⟩
    · rw [ev_ite, gt, decide_eq_false (by omega), onB_f, ev_c, s_em]
    · rw [qsz_none h3]
      rfl
  · rw [he2] at h1
    obtain ⟨t, ht⟩ : ∃ t, ((L.drop (a + 1)).takeWhile fun d => decide (d ≠ 34)).length = t := ⟨_, rfl⟩
    rw [ht] at h1 h2
    have lt : a + 1 + t < L.length := by
      rcases Nat.lt_or_ge (a + 1 + t) L.length with h | h
      · exact h
      · rw [List.getElem?_eq_none h] at h2
        cases h2
    have tk : (L.drop (a + 1)).take t = (L.drop (a + 1)).takeWhile fun d => decide (d ≠ 34) := by
      rw [← ht]
      exact tw_take _ _
    have cu := ev_cut (C := C) (ρ := E15 L a (some (.sh (.int e2))) none none none none none) (L := L) (i := 0) (a := a + 1) (b := a + 1 + t) (lo := .op .add [.nm 1, .c (.int 1)]) (hi := .nm 2) (x1 := .tv (nx (a + 1)))
    have cut : ev C (.sl [.nm 0] [.op .add [.nm 1, .c (.int 1)]] [.nm 2]) (E15 L a (some (.sh (.int e2))) none none none none none) = some (sx ((L.drop (a + 1)).take t), E15 L a (some (.sh (.int e2))) none none none none none) := by
      have pc : pCut (sx L) (some ((a + 1 : Nat) : Int)) (some ((a + 1 + t : Nat) : Int)) = some (sx ((L.drop (a + 1)).take t)) := by
        have g : decide ((sOf L).length ≤ sizeLine) = true := decide_eq_true (by rw [len_sOf]; exact sz_le (by omega))
        have cn := cut_nat L (show a + 1 ≤ a + 1 + t by omega)
        rw [Nat.add_sub_cancel_left] at cn
        simp only [pCut, gd, g, if_true, cn, shS]
      have p1 := ev_addc (C := C) (ρ := E15 L a (some (.sh (.int e2))) none none none none none) (i := 1) (a := a) 1 1 rfl rfl
      have q1 : evOs C [.nm 0] (E15 L a (some (.sh (.int e2))) none none none none none) = some ([.sl 0], E15 L a (some (.sh (.int e2))) none none none none none) := by simp [rdO]
      have q2 : evOs C [.op .add [.nm 1, .c (.int 1)]] (E15 L a (some (.sh (.int e2))) none none none none none) = some ([.tv (nx (a + 1))], E15 L a (some (.sh (.int e2))) none none none none none) := by rw [evOs_op, p1]; rfl
      have q3 : evOs C [.nm 2] (E15 L a (some (.sh (.int e2))) none none none none none) = some ([.sl 2], E15 L a (some (.sh (.int e2))) none none none none none) := by simp [rdO]
      have r1 : partOf (E15 L a (some (.sh (.int e2))) none none none none none) [.tv (nx (a + 1))] = some (some ((a + 1 : Nat) : Int)) := rfl
      have r2 : partOf (E15 L a (some (.sh (.int e2))) none none none none none) [.sl 2] = some (some ((a + 1 + t : Nat) : Int)) := by rw [h1]; rfl
      have r3 : rdOs (E15 L a (some (.sh (.int e2))) none none none none none) [.sl 0] = some [sx L] := by simp [rdO]
      simp only [ev, q1, q2, q3, r1, r2, r3, pc]
    refine ⟨_, fin ((L.drop (a + 1)).take t) (by rw [List.length_take, List.length_drop]; omega) ?_ ?_⟩
    · rw [ev_ite, gt, decide_eq_true (by omega), onB_t, cut]
    · have sp : L.drop (a + 1) = (L.drop (a + 1)).take t ++ 34 :: L.drop (a + 1 + t + 1) := by
        have d1 := List.drop_eq_getElem_cons lt
        have g : L[a + 1 + t] = 34 := by
          have := List.getElem?_eq_getElem lt
          rw [h2] at this
          exact (Option.some.inj this).symm
        rw [g] at d1
        rw [← d1, show L.drop (a + 1 + t) = (L.drop (a + 1)).drop t by rw [List.drop_drop], List.take_append_drop]
      have n34 : 34 ∉ (L.drop (a + 1)).take t := fun m => by
        rw [tk] at m
        have := mem_tw m
        simp at this
      conv => lhs; rw [sp]
      exact qsz_found n34
end
theorem f15_ok {k : Nat} (h : 1 ≤ k) (L : List Nat) (hl : L.length ≤ 50000) (a : Nat) (ha : a < L.length) : RF k 15 [sx L, nx a] = some (nx (siz (L.drop a)), [sx L, nx a]) := by
  obtain ⟨k, rfl, _⟩ := posK h
  have hg := List.getElem?_eq_getElem ha
  have hd := List.drop_eq_getElem_cons ha
  have key : ∃ ρ', evSs (RF k) f15.body (E15 L a none none none none none none) = some (.rt (nx (siz (L.drop a))) (some (sx L) :: some (nx a) :: ρ')) := by
    generalize RF k = C
    have i0 := ev_at (C := C) (ρ := E15 L a none none none none none none) (L := L) (i := 0) (j := 1) (by omega) rfl rfl hg
    have e1 := ev_ins (C := C) (w := sgns) rfl i0 s_sgns
    have e2 := ev_eqs (C := C) (y := "\"") (w := [34]) rfl i0 s_q
    unfold f15
    by_cases h1 : L[a] ∈ sgns
    · refine ⟨[none, none, none, none, none, none, none], ?_⟩
      rw [decide_eq_true h1] at e1
      rw [evSs_cons, if_tt e1, hd]
      simp only [siz, if_pos h1]
      rfl
    · rw [decide_eq_false h1] at e1
      rw [evSs_cons, if_ff e1, evSs_nil, thenS_nx]
      by_cases h2 : L[a] = 34
      · rw [decide_eq_true (by rw [h2])] at e2
        obtain ⟨ρ', q⟩ := quote15 (C := C) (L := L) (a := a) hl ha
        refine ⟨ρ', ?_⟩
        rw [evSs_cons, if_tt e2, q, hd]
        simp only [siz, if_neg h1, if_pos h2]
        rfl
      · rw [decide_eq_false (by simpa using h2)] at e2
        rw [evSs_cons, if_ff e2, evSs_nil, thenS_nx]
        obtain ⟨n, hn⟩ : ∃ n, (runOf (L.drop a)).length = n := ⟨_, rfl⟩
        have w := scan (C := C) (c := .and2 (.op .lt [.op .add [.nm 1, .nm 4], .op .len [.nm 0]]) (.op .isin [.op .item [.nm 0, .op .add [.nm 1, .nm 4]], .c (.str "abcdefghijklmnopqrstuvwxyz0123456789")])) (b := [.asg (.nm 4) (.op .add [.nm 4, .c (.int 1)])])
          (E := fun j => E15 L a none none (some (nx j)) none none none) (f := fun d => decide (d ∈ names)) (R := L.drop a)
          (fun j => by
            rw [List.getElem?_drop]
            exact scanc (by omega) rfl rfl rfl (by simp) s_names)
          (fun j => by
            have e := ev_addc (C := C) (ρ := E15 L a none none (some (nx j)) none none none) (i := 4) (a := j) 1 1 rfl rfl
            rw [evSs_cons, evS_asg, e]
            rfl) _ 0 (Nat.le_refl _)
        rw [List.drop_zero, Nat.zero_add] at w
        change evS C _ _ = some (.nx (E15 L a none none (some (nx (runOf (L.drop a)).length)) none none none)) at w
        rw [hn] at w
        have s1 : evS C (.asg (.nm 4) (.c (.int 0))) (E15 L a none none none none none none) = some (.nx (E15 L a none none (some (nx 0)) none none none)) := by
          rw [evS_asg, ev_c]
          rfl
        have ad := ev_addn (C := C) (ρ := E15 L a none none (some (nx n)) none none none) (i := 1) (j := 4) (a := a) (b := n) rfl rfl
        have cu := ev_cut (C := C) (ρ := E15 L a none none (some (nx n)) none none none) (L := L) (i := 0) (lo := .nm 1) (a := a) (b := a + n) (x1 := .sl 1) (by omega) rfl rfl (by simp [rdO]) rfl ad (by omega)
        have tk : (L.drop a).take (a + n - a) = runOf (L.drop a) := by
          rw [Nat.add_sub_cancel_left, ← hn]
          exact tw_take _ _
        rw [tk] at cu
        have s2 : evS C (.asg (.nm 5) (.sl [.nm 0] [.nm 1] [.op .add [.nm 1, .nm 4]])) (E15 L a none none (some (nx n)) none none none) = some (.nx (E15 L a none none (some (nx n)) (some (sx (runOf (L.drop a)))) none none)) := by
          rw [evS_asg, cu]
          rfl
        have rl : (runOf (L.drop a)).length ≤ 50000 := by
          have := tw_len (fun c => decide (c ∈ names)) (L.drop a)
          rw [List.length_drop] at this
          change (runOf _).length ≤ _ at this
          omega
        have inN : ∀ c ∈ runOf (L.drop a), c ∈ names := fun c m => of_decide_eq_true (mem_tw m)
        have rz : siz (L.drop a) = if (decide (runOf (L.drop a) ≠ []) && rwd (runOf (L.drop a))) = true then n else 0 := by
          have e : siz (L.drop a) = rsz (L.drop a) := by
            rw [hd]
            simp only [siz, if_neg h1, if_neg h2]
          rw [e]
          unfold rsz
          simp only [Bool.and_eq_true, decide_eq_true_eq, hn]
        generalize runOf (L.drop a) = R at *
        have ne5 : ∀ s6, ev C (.op .ne [.nm 5, .c (.str "")]) (E15 L a none none (some (nx n)) (some (sx R)) s6 none) = some (.sh (.bool (!decide (R = []))), E15 L a none none (some (nx n)) (some (sx R)) s6 none) := fun s6 => ne_n rfl s_em
        have le4 : ∀ (s6 : Option O) (z : Int) (m : Nat), z = (m : Int) → ev C (.op .le [.nm 4, .c (.int z)]) (E15 L a none none (some (nx n)) (some (sx R)) s6 none) = some (.sh (.bool (decide (n ≤ m))), E15 L a none none (some (nx n)) (some (sx R)) s6 none) := fun s6 z m hz => by
          subst hz
          have e : decide ((n : Int) ≤ (m : Int)) = decide (n ≤ m) := decide_eq_decide.mpr (by omega)
          have e' : (!decide ((m : Int) < (n : Int))) = decide (n ≤ m) := by
            by_cases q : n ≤ m
            · rw [decide_eq_true q, decide_eq_false (by omega)]; rfl
            · rw [decide_eq_false q, decide_eq_true (by omega)]; rfl
          simp [rdO, prim, pCmp, e, shB]
        obtain ⟨b6, h6, hb6⟩ : ∃ b6 : Bool, (∀ s6, ev C (.and2 (.op .ne [.nm 5, .c (.str "")]) (.and2 (.op .notin [.op .item [.nm 5, .c (.int 0)], .c (.str "0123456789")]) (.op .le [.nm 4, .c (.int 12)]))) (E15 L a none none (some (nx n)) (some (sx R)) s6 none) = some (.sh (.bool b6), E15 L a none none (some (nx n)) (some (sx R)) s6 none)) ∧
            b6 = (!decide (R = []) && (decide (R.headD 0 ∈ lets) && decide (R.length ≤ 12))) := by
          match R, inN with
          | [], _ =>
            refine ⟨_, fun s6 => and_b (y := false) (ne5 s6) (fun z => by simp at z), rfl⟩
          | c :: r, inN =>
            refine ⟨_, fun s6 => and_b (ne5 s6) (fun _ => and_b (ev_nins rfl (ev_at0 (i := 5) (by omega) rfl) s_figs) (fun _ => le4 s6 12 12 rfl)), ?_⟩
            rw [← names_split (inN c List.mem_cons_self), hn]
            rfl
        obtain ⟨b7, h7, hb7⟩ : ∃ b7 : Bool, (∀ s6, ev C (.and2 (.op .ne [.nm 5, .c (.str "")]) (.and2 (.op .all [.lc [8] (.nm 8) .sq [.nm 5] [] (.op .isin [.nm 8, .c (.str "0123456789")])]) (.and2 (.op .le [.nm 4, .c (.int 10)]) (.or2 (.op .ne [.op .item [.nm 5, .c (.int 0)], .c (.str "0")]) (.op .eq [.nm 5, .c (.str "0")]))))) (E15 L a none none (some (nx n)) (some (sx R)) s6 none) = some (.sh (.bool b7), E15 L a none none (some (nx n)) (some (sx R)) s6 none)) ∧
            b7 = (!decide (R = []) && numeral R) := by
          match R with
          | [] =>
            refine ⟨_, fun s6 => and_b (y := false) (ne5 s6) (fun z => by simp at z), rfl⟩
          | c :: r =>
            refine ⟨_, fun s6 => and_b (ne5 s6) (fun _ => and_b (ev_allin (L := c :: r) (i := 5) (n := 8) (ws := []) (ρ1 := []) (by omega) rfl (by simp) rfl s_figs) (fun _ => and_b (le4 s6 10 10 rfl) fun _ => or_b (ev_nes rfl (ev_at0 (i := 5) (by omega) rfl) s_0) fun _ => eq_n rfl s_0)), ?_⟩
            unfold numeral
            have e1 : decide (1 ≤ (c :: r).length) = true := decide_eq_true (by simp)
            have e2 : decide ((c :: r).head? ≠ some 48) = !decide ([c] = [48]) := by
              by_cases hc : c = 48 <;> simp [hc]
            have e3 : decide (c :: r = []) = false := rfl
            rw [e1, e2, e3, hn]
            cases (decide (n ≤ 10)) <;> cases ((c :: r).all fun c => decide (c ∈ figs)) <;> rfl
        refine ⟨[none, none, some (nx n), some (sx R), some (.sh (.bool b6)), some (.sh (.bool b7)), none], ?_⟩
        have s3 : evS C (.asg (.nm 6) (.and2 (.op .ne [.nm 5, .c (.str "")]) (.and2 (.op .notin [.op .item [.nm 5, .c (.int 0)], .c (.str "0123456789")]) (.op .le [.nm 4, .c (.int 12)])))) (E15 L a none none (some (nx n)) (some (sx R)) none none) = some (.nx (E15 L a none none (some (nx n)) (some (sx R)) (some (.sh (.bool b6))) none)) := by
          rw [evS_asg, h6 none]
          rfl
        have s4 : evS C (.asg (.nm 7) (.and2 (.op .ne [.nm 5, .c (.str "")]) (.and2 (.op .all [.lc [8] (.nm 8) .sq [.nm 5] [] (.op .isin [.nm 8, .c (.str "0123456789")])]) (.and2 (.op .le [.nm 4, .c (.int 10)]) (.or2 (.op .ne [.op .item [.nm 5, .c (.int 0)], .c (.str "0")]) (.op .eq [.nm 5, .c (.str "0")])))))) (E15 L a none none (some (nx n)) (some (sx R)) (some (.sh (.bool b6))) none) =
            some (.nx (E15 L a none none (some (nx n)) (some (sx R)) (some (.sh (.bool b6))) (some (.sh (.bool b7))))) := by
          rw [evS_asg, h7]
          rfl
        have orv := or_b (tt_n (C := C) (ρ := E15 L a none none (some (nx n)) (some (sx R)) (some (.sh (.bool b6))) (some (.sh (.bool b7)))) (i := 6) rfl) fun _ => tt_n (i := 7) rfl
        have cond : (b6 || b7) = (decide (R ≠ []) && rwd R) := by
          rw [hb6, hb7]
          unfold rwd
          have e : decide (R ≠ []) = !decide (R = []) := by by_cases q : R = [] <;> simp [q]
          rw [e]
          cases decide (R = []) <;> cases numeral R <;> cases (decide (R.headD 0 ∈ lets) && decide (R.length ≤ 12)) <;> rfl
        rw [cond] at orv
        have it := ite_b (o := nx (siz (L.drop a))) (a := .nm 4) (b := .c (.int 0)) orv (fun e => by
          rw [ev_nm, rz, if_pos e]
          rfl) (fun e => by
          rw [ev_c, rz, if_neg (by rw [e]; decide)]
          rfl)
        rw [seq1 s1, seq1 w, seq1 s2, seq1 s3, seq1 s4, evSs_cons, evS_ret, it]
        rfl
  obtain ⟨ρ', e⟩ := key
  exact run_rt (fd := f15) rfl rfl e rfl
end L11
end
section
set_option Elab.async false
set_option linter.all false
set_option maxRecDepth 100000
set_option maxHeartbeats 2000000
namespace L11
open PySem PySem.Spec PyProof.Rows L2 Qv
/-! ### line by line -/
abbrev E16 (T : List Nat) (acc : List PyData) (s2 s3 s4 s5 : Option O) : Qv.Env := [some (sx T), some (olOf acc), s2, s3, s4, s5]
def OutV (T : List Nat) (acc : List PyData) (q : Res) (r : Option Out) : Prop := match q.2 with
  | none => ∃ (s2 s3 s4 s5 : Option O), r = some (.nx (E16 T (acc ++ q.1.map tokD) s2 s3 s4 s5))
  | some w => ∃ ρ' : Qv.Env, r = some (.rt (.ot [olOf (acc ++ q.1.map tokD), .sh (pairD w)]) (some (sx T) :: ρ'))
theorem OutV.cons {T : List Nat} {acc : List PyData} {t : Tok} {q : Res} {r : Option Out} (h : OutV T (acc ++ [tokD t]) q r) : OutV T acc (consR t q) r := by
  obtain ⟨ts, w⟩ := q
  cases w with
  | none =>
    obtain ⟨s2, s3, s4, s5, h⟩ := h
    exact ⟨s2, s3, s4, s5, by rw [h, consR, List.map_cons, List.append_assoc]; rfl⟩
  | some w =>
    obtain ⟨ρ', h⟩ := h
    exact ⟨ρ', by rw [h, consR, List.map_cons, List.append_assoc]; rfl⟩
def c16 : Qv.T := .and2 (.op .lt [.nm 4, .op .len [.nm 3]]) (.op .ne [.op .item [.nm 3, .nm 4], .c (.str "#")])
def body16 : List Qv.S := [.asg (.nm 5) (.ite (.op .eq [.op .item [.nm 3, .nm 4], .c (.str " ")]) (.c (.int 1)) (.call 15 [.nm 3, .nm 4])),
    .ite (.op .eq [.nm 5, .c (.int 0)]) [.ret (.tupo [.mv 1, .tup [.nm 2, .nm 4]])] [],
    .ex (.ext 1 [.ite (.op .ne [.op .item [.nm 3, .nm 4], .c (.str " ")]) (.lst [.tup [.sl [.nm 3] [.nm 4] [.op .add [.nm 4, .nm 5]], .nm 2, .nm 4]]) (.lst [])]),
    .asg (.nm 4) (.op .add [.nm 4, .nm 5])]
def line16 : List Qv.S := [.asg (.nm 4) (.c (.int 0)), .wh c16 body16]
theorem body16_eq : f16.body = [.asg (.nm 1) (.lst []), .fr (.tp [.nm 2, .nm 3]) .en [.mth .split (.nm 0) [.c (.str "\n")]] line16, .ret (.tupo [.mv 1, .c (.none)])] := rfl
structure Siz (C : Cal) : Prop where
  run : ∀ (P : List Nat) (a : Nat), P.length ≤ 50000 → a < P.length → C 15 [sx P, nx a] = some (nx (siz (P.drop a)), [sx P, nx a])
section
variable {C : Cal} {T P : List Nat} {acc : List PyData} {n a : Nat} {s5 : Option O}
theorem lt16 (hl : P.length ≤ 50000) : ev C (.op .lt [.nm 4, .op .len [.nm 3]]) (E16 T acc (some (nx n)) (some (sx P)) (some (nx a)) s5) = some (.sh (.bool (decide (a < P.length))), E16 T acc (some (nx n)) (some (sx P)) (some (nx a)) s5) := by
  have ln := ev_len (C := C) (ρ := E16 T acc (some (nx n)) (some (sx P)) (some (nx a)) s5) (L := P) (i := 3) (by omega) rfl
  have e : decide ((a : Int) < (P.length : Int)) = decide (a < P.length) := decide_eq_decide.mpr (by omega)
  rw [ev_op, evOs_nm]
  simp only [rdO, List.getElem?_cons_succ, List.getElem?_cons_zero, Option.bind_some]
  rw [evOs_op, ln]
  simp [rdO, prim, pCmp, e, shB]
theorem ext16 {s4 : Option O} {e : Qv.T} {ds : List PyData} {s2 s3 : Option O} (hn : isNm e = none) (h : ev C e (E16 T acc s2 s3 s4 s5) = some (olOf ds, E16 T acc s2 s3 s4 s5)) (hl : acc.length + ds.length ≤ 1000000) : ev C (.ext 1 [e]) (E16 T acc s2 s3 s4 s5) = some (.sh .none, E16 T (acc ++ ds) s2 s3 s4 s5) := by
  rw [ext_of (os0 := acc.map O.sh) (os := acc.map O.sh) hn rfl h rfl (by simp) list_ol (by rw [List.length_map]; exact sz_le hl)]
  have e5 : acc.map O.sh ++ ds.map O.sh = (acc ++ ds).map O.sh := List.map_append.symm
  rw [e5]
  rfl
theorem loop16 (D : Siz C) (hl : P.length ≤ 50000) : ∀ (m a : Nat) (acc : List PyData) (s5 : Option O), P.length - a ≤ m → a ≤ P.length → acc.length + (P.length - a) ≤ 900000 → OutV T acc (Vf (P.drop a) n a) (evS C (.wh c16 body16) (E16 T acc (some (nx n)) (some (sx P)) (some (nx a)) s5))
  | m, a, acc, s5, hm, ha, hc => by
    have lt := lt16 (C := C) (T := T) (acc := acc) (n := n) (a := a) (s5 := s5) hl
    by_cases hlt : a < P.length
    · rw [decide_eq_true hlt] at lt
      match m with
      | 0 => omega
      | m + 1 =>
        have hg := List.getElem?_eq_getElem hlt
        have hd := List.drop_eq_getElem_cons hlt
        have i0 : ∀ s5, ev C (.op .item [.nm 3, .nm 4]) (E16 T acc (some (nx n)) (some (sx P)) (some (nx a)) s5) = _ := fun s5 => ev_at (L := P) (i := 3) (j := 4) (by omega) rfl rfl hg
        have cd := and_b lt fun _ => ev_nes (y := "#") (w := [35]) rfl (i0 s5) s_rm
        change ev C c16 _ = _ at cd
        by_cases h3 : P[a] = 35
        · rw [h3] at cd
          have cd : ev C c16 (E16 T acc (some (nx n)) (some (sx P)) (some (nx a)) s5) = some (.sh (.bool false), E16 T acc (some (nx n)) (some (sx P)) (some (nx a)) s5) := cd
          rw [wh_f cd, hd, h3, Vf_rem]
          exact ⟨_, _, _, _, by rw [List.map_nil, List.append_nil]⟩
        · have e35 : (true && !decide ([P[a]] = [35])) = true := by simp [h3]
          rw [e35] at cd
          have e2 : ∀ s5, ev C (.op .eq [.op .item [.nm 3, .nm 4], .c (.str " ")]) (E16 T acc (some (nx n)) (some (sx P)) (some (nx a)) s5) = _ := fun s5 => ev_eqs (y := " ") (w := [32]) rfl (i0 s5) s_sp
          have n2 : ∀ s5, ev C (.op .ne [.op .item [.nm 3, .nm 4], .c (.str " ")]) (E16 T acc (some (nx n)) (some (sx P)) (some (nx a)) s5) = _ := fun s5 => ev_nes (y := " ") (w := [32]) rfl (i0 s5) s_sp
          by_cases h2 : P[a] = 32
          · have e2 := e2 s5
            have n2 := n2 (some (nx 1))
            rw [h2] at e2 n2
            have s1 : evS C (.asg (.nm 5) (.ite (.op .eq [.op .item [.nm 3, .nm 4], .c (.str " ")]) (.c (.int 1)) (.call 15 [.nm 3, .nm 4]))) (E16 T acc (some (nx n)) (some (sx P)) (some (nx a)) s5) = some (.nx (E16 T acc (some (nx n)) (some (sx P)) (some (nx a)) (some (nx 1)))) := by
              rw [evS_asg, ev_ite, e2]
              simp only [decide_true, onB_t, ev_c, Option.bind_some]
              rfl
            have z0 := eq_i (C := C) (ρ := E16 T acc (some (nx n)) (some (sx P)) (some (nx a)) (some (nx 1))) (i := 5) (m := 1) 0 0 rfl rfl
            have x3 := ext16 (C := C) (T := T) (acc := acc) (s5 := some (nx 1)) (s4 := some (nx a)) (s2 := some (nx n)) (s3 := some (sx P)) (e := .ite (.op .ne [.op .item [.nm 3, .nm 4], .c (.str " ")]) (.lst [.tup [.sl [.nm 3] [.nm 4] [.op .add [.nm 4, .nm 5]], .nm 2, .nm 4]]) (.lst [])) (ds := []) rfl (by
              rw [ev_ite, n2]
              simp only [decide_true, Bool.not_true, onB_f, ev_lst, evs_nil, Option.bind_some, List.length_nil, szd0]
              rfl) (by simp only [List.length_nil]; omega)
            rw [List.append_nil] at x3
            have ad := ev_addn (C := C) (ρ := E16 T acc (some (nx n)) (some (sx P)) (some (nx a)) (some (nx 1))) (i := 4) (j := 5) (a := a) (b := 1) rfl rfl
            have st : evSs C body16 (E16 T acc (some (nx n)) (some (sx P)) (some (nx a)) s5) = some (.nx (E16 T acc (some (nx n)) (some (sx P)) (some (nx (a + 1))) (some (nx 1)))) := by
              unfold body16
              rw [seq1 s1, evSs_cons, if_ff z0, evSs_nil, thenS_nx, evSs_cons, evS_ex, x3]
              simp only [Option.bind_some, thenS_nx]
              rw [evSs_cons, evS_asg, ad]
              rfl
            rw [wh_t cd st, hd, h2, Vf_sp]
            exact loop16 D hl m (a + 1) acc (some (nx 1)) (by omega) (by omega) (by omega)
          · have q15 := D.run P a hl hlt
            have sle := siz_le (P.drop a)
            rw [List.length_drop] at sle
            obtain ⟨z, hz⟩ : ∃ z, siz (P.drop a) = z := ⟨_, rfl⟩
            rw [hz] at q15 sle
            have s1 : evS C (.asg (.nm 5) (.ite (.op .eq [.op .item [.nm 3, .nm 4], .c (.str " ")]) (.c (.int 1)) (.call 15 [.nm 3, .nm 4]))) (E16 T acc (some (nx n)) (some (sx P)) (some (nx a)) s5) = some (.nx (E16 T acc (some (nx n)) (some (sx P)) (some (nx a)) (some (nx z)))) := by
              rw [evS_asg, ev_ite, e2 s5, decide_eq_false (by simpa using h2), onB_f, call2s rfl rfl q15]
              rfl
            have z0 := eq_i (C := C) (ρ := E16 T acc (some (nx n)) (some (sx P)) (some (nx a)) (some (nx z))) (i := 5) (m := z) 0 0 rfl rfl
            by_cases h4 : z = 0
            · rw [decide_eq_true h4] at z0
              have st : evSs C body16 (E16 T acc (some (nx n)) (some (sx P)) (some (nx a)) s5) = some (.rt (.ot [olOf acc, .sh (pairD (n, a))]) [some (sx T), none, some (nx n), some (sx P), some (nx a), some (nx z)]) := by
                unfold body16
                rw [seq1 s1, evSs_cons, if_tt z0, evSs_cons, evS_ret, ev_tupo, evs_cons, ev_mv]
                simp only [mvV, List.getElem?_cons_succ, List.getElem?_cons_zero, Option.bind_some, List.set_cons_succ, List.set_cons_zero]
                rw [evs_cons, ev_tup, evs_cons, ev_nm]
                simp only [rdV, List.getElem?_cons_succ, List.getElem?_cons_zero, Option.bind_some]
                rw [evs_cons, ev_nm]
                rfl
              have h4' : siz (P[a] :: P.drop (a + 1)) = 0 := by rw [← hd, hz]; exact h4
              rw [wh_r cd st, hd, Vf_wrong h2 h3 h4']
              exact ⟨_, by rw [List.map_nil, List.append_nil]⟩
            · rw [decide_eq_false h4] at z0
              have ad := ev_addn (C := C) (ρ := E16 T acc (some (nx n)) (some (sx P)) (some (nx a)) (some (nx z))) (i := 4) (j := 5) (a := a) (b := z) rfl rfl
              have cu := ev_cut (C := C) (ρ := E16 T acc (some (nx n)) (some (sx P)) (some (nx a)) (some (nx z))) (L := P) (i := 3) (lo := .nm 4) (a := a) (b := a + z) (x1 := .sl 4) (by omega) rfl rfl (by simp [rdO]) rfl ad (by omega)
              rw [Nat.add_sub_cancel_left] at cu
              have tu : ev C (.lst [.tup [.sl [.nm 3] [.nm 4] [.op .add [.nm 4, .nm 5]], .nm 2, .nm 4]]) (E16 T acc (some (nx n)) (some (sx P)) (some (nx a)) (some (nx z))) = some (olOf [tokD ((P.drop a).take z, n, a)], E16 T acc (some (nx n)) (some (sx P)) (some (nx a)) (some (nx z))) := by
                rw [ev_lst, evs_cons, ev_tup, evs_cons, cu]
                simp only [Option.bind_some]
                rw [evs_cons, ev_nm]
                simp only [rdV, List.getElem?_cons_succ, List.getElem?_cons_zero, Option.bind_some]
                rw [evs_cons, ev_nm]
                rfl
              have x3 := ext16 (C := C) (T := T) (acc := acc) (s5 := some (nx z)) (s4 := some (nx a)) (s2 := some (nx n)) (s3 := some (sx P)) (e := .ite (.op .ne [.op .item [.nm 3, .nm 4], .c (.str " ")]) (.lst [.tup [.sl [.nm 3] [.nm 4] [.op .add [.nm 4, .nm 5]], .nm 2, .nm 4]]) (.lst [])) (ds := [tokD ((P.drop a).take z, n, a)]) rfl (by
                rw [ev_ite, n2 (some (nx z)), decide_eq_false (by simpa using h2)]
                simp only [Bool.not_false, onB_t]
                exact tu) (by simp only [List.length_singleton]; omega)
              have ad2 := ev_addn (C := C) (ρ := E16 T (acc ++ [tokD ((P.drop a).take z, n, a)]) (some (nx n)) (some (sx P)) (some (nx a)) (some (nx z))) (i := 4) (j := 5) (a := a) (b := z) rfl rfl
              have st : evSs C body16 (E16 T acc (some (nx n)) (some (sx P)) (some (nx a)) s5) = some (.nx (E16 T (acc ++ [tokD ((P.drop a).take z, n, a)]) (some (nx n)) (some (sx P)) (some (nx (a + z))) (some (nx z)))) := by
                unfold body16
                rw [seq1 s1, evSs_cons, if_ff z0, evSs_nil, thenS_nx, evSs_cons, evS_ex, x3]
                simp only [Option.bind_some, thenS_nx]
                rw [evSs_cons, evS_asg, ad2]
                rfl
              rw [wh_t cd st]
              have ih := loop16 D hl m (a + z) (acc ++ [tokD ((P.drop a).take z, n, a)]) (some (nx z)) (by omega) (by omega) (by rw [List.length_append, List.length_singleton]; omega)
              have h4' : siz (P[a] :: P.drop (a + 1)) ≠ 0 := by rw [← hd, hz]; exact h4
              rw [hd, Vf_word h2 h3 h4', ← hd]
              rw [hz]
              refine OutV.cons ?_
              rw [List.drop_drop]
              exact ih
    · rw [decide_eq_false hlt] at lt
      have cd := and_b (y := false) (b := .op .ne [.op .item [.nm 3, .nm 4], .c (.str "#")]) lt (fun e => by cases e)
      change ev C c16 _ = _ at cd
      rw [wh_f cd, List.drop_eq_nil_of_le (by omega), Vf_nil]
      exact ⟨_, _, _, _, by rw [List.map_nil, List.append_nil]⟩
end
end L11
end
section
set_option Elab.async false
set_option linter.all false
set_option maxRecDepth 100000
set_option maxHeartbeats 2000000
namespace L11
open PySem PySem.Spec PyProof.Rows L2 Qv
def lens (ps : List (List Nat)) : Nat := (ps.map List.length).sum
def rowsD (ps : List (List Nat)) (n : Nat) : List O := ((ps.map fun p => PyData.str (sOf p)).zipIdx n).map fun p => O.sh (.tuple [.int p.2, p.1])
theorem frGo16 {C : Cal} (D : Siz C) {T : List Nat} : ∀ (ps : List (List Nat)) (n : Nat) (acc : List PyData) (s2 s3 s4 s5 : Option O), (∀ p ∈ ps, 10 ∉ p ∧ p.length ≤ 50000) → acc.length + lens ps ≤ 900000 →
    OutV T acc (VL ps n) (frGo (fun x ρ2 => (bindTg (.tp [.nm 2, .nm 3]) x ρ2).bind fun ρ3 => evSs C line16 ρ3) (rowsD ps n) (E16 T acc s2 s3 s4 s5))
  | [], n, acc, s2, s3, s4, s5, _, _ => ⟨s2, s3, s4, s5, by rw [VL, List.map_nil, List.append_nil]; rfl⟩
  | p :: ps, n, acc, s2, s3, s4, s5, hp, hl => by
    obtain ⟨p1, p2⟩ := hp p List.mem_cons_self
    have e0 : rowsD (p :: ps) n = O.sh (.tuple [.int n, .str (sOf p)]) :: rowsD ps (n + 1) := rfl
    have bt : bindTg (.tp [.nm 2, .nm 3]) (O.sh (.tuple [.int n, .str (sOf p)])) (E16 T acc s2 s3 s4 s5) = some (E16 T acc (some (nx n)) (some (sx p)) s4 s5) := by
      simp only [bindTg, bindTgs, List.map_cons, List.map_nil]
      rfl
    have s1 : evS C (.asg (.nm 4) (.c (.int 0))) (E16 T acc (some (nx n)) (some (sx p)) s4 s5) = some (.nx (E16 T acc (some (nx n)) (some (sx p)) (some (nx 0)) s5)) := by
      rw [evS_asg, ev_c]
      rfl
    have ll : lens (p :: ps) = p.length + lens ps := by simp [lens]
    rw [ll] at hl
    have lp := loop16 (C := C) (T := T) (n := n) D p2 p.length 0 acc s5 (by omega) (by omega) (by omega)
    rw [List.drop_zero] at lp
    have wl := (W_ok p (n + p.length) p.length p n 0 (Nat.le_refl _) (fun _ h => h) (by omega) (by omega)).1
    rw [W_last n _ p 0 (Nat.le_refl _) p1] at wl
    rw [e0]
    simp only [frGo, bt, Option.bind_some]
    have le : evSs C line16 (E16 T acc (some (nx n)) (some (sx p)) s4 s5) = thenS (evS C (.wh c16 body16) (E16 T acc (some (nx n)) (some (sx p)) (some (nx 0)) s5)) fun ρ => evSs C [] ρ := by
      unfold line16
      rw [seq1 s1, evSs_cons]
    rw [le]
    unfold VL
    obtain ⟨⟨ts, w⟩, q⟩ : ∃ r, Vf p n 0 = r := ⟨_, rfl⟩
    rw [q] at lp wl ⊢
    cases w with
    | none =>
      obtain ⟨t2, t3, t4, t5, e⟩ := lp
      rw [e]
      simp only [thenS_nx, evSs_nil]
      simp only at wl
      have ih := frGo16 D (T := T) ps (n + 1) (acc ++ ts.map tokD) t2 t3 t4 t5 (fun x m => hp x (List.mem_cons_of_mem _ m)) (by rw [List.length_append, List.length_map]; omega)
      unfold joinR
      simp only
      generalize VL ps (n + 1) = r at *
      obtain ⟨us, v⟩ := r
      cases v with
      | none =>
        obtain ⟨u2, u3, u4, u5, e⟩ := ih
        exact ⟨u2, u3, u4, u5, by rw [e, List.map_append, List.append_assoc]⟩
      | some v =>
        obtain ⟨ρ', e⟩ := ih
        exact ⟨ρ', by rw [e, List.map_append, List.append_assoc]⟩
    | some w =>
      obtain ⟨ρ', e⟩ := lp
      rw [e]
      exact ⟨ρ', rfl⟩
theorem cut_spl : ∀ (n : Nat) (L : List Nat), L.length ≤ n → Cut L (TL.spl [10] 0 [] L) ∧ lens (TL.spl [10] 0 [] L) ≤ L.length ∧ ∀ p ∈ TL.spl [10] 0 [] L, 10 ∉ p ∧ p.length ≤ L.length
  | n, L, h => by
    by_cases hm : 10 ∈ L
    · obtain ⟨p, r, rfl, hp⟩ := List.eq_append_cons_of_mem hm
      match n with
      | 0 => simp at h
      | n + 1 =>
        rw [List.length_append, List.length_cons] at h
        obtain ⟨i1, i2, i3⟩ := cut_spl n r (by omega)
        have e : TL.spl [10] 0 [] (p ++ 10 :: r) = p :: TL.spl [10] 0 [] r := by
          have := TL.spl_part1 (s := 10) (S := []) (p := p) (rest := r) (acc := []) hp
          simpa using this
        rw [e]
        refine ⟨.more hp i1, ?_, fun q hq => ?_⟩
        · rw [List.length_append, List.length_cons]
          simp only [lens, List.map_cons, List.sum_cons] at i2 ⊢
          omega
        · rw [List.length_append, List.length_cons]
          rcases List.mem_cons.mp hq with rfl | hq
          · exact ⟨hp, by omega⟩
          · have := i3 q hq
            exact ⟨this.1, by omega⟩
    · have e : TL.spl [10] 0 [] L = [L] := by
        have := TL.spl_last1 (s := 10) (S := []) (p := L) (acc := []) hm
        simpa using this
      rw [e]
      refine ⟨.last hm, by simp [lens], fun q hq => ?_⟩
      rw [List.mem_singleton.mp hq]
      exact ⟨hm, Nat.le_refl _⟩
theorem split_is (L : List Nat) : Txt.split (sOf L) (sOf [10]) = (TL.spl [10] 0 [] L).map sOf := by
  have h := TL.split_spl (sOf L) (sOf [10]) (by rw [show TL.tl (sOf [10]) = [10] from tl_sOf _]; simp) (TL.kind_ok (by decide +kernel))
  rw [show TL.tl (sOf [10]) = [10] from tl_sOf _, show TL.tl (sOf L) = L from tl_sOf _] at h
  refine TL.map_tl_inj ?_
  rw [h, List.map_map]
  have : (TL.tl ∘ sOf) = id := by
    funext l
    exact tl_sOf l
  rw [this, List.map_id]
theorem f16_ok {k : Nat} (h : 2 ≤ k) (L : List Nat) (hl : L.length ≤ 50000) : RF k 16 [sx L] = some (.ot [olOf (toks L), .sh (wrong L)], [sx L]) := by
  obtain ⟨k, rfl, hk⟩ := posK h
  have D : Siz (RF k) := ⟨fun P a h1 h2 => f15_ok hk P h1 a h2⟩
  obtain ⟨c1, c2, c3⟩ := cut_spl L.length L (Nat.le_refl _)
  obtain ⟨ps, hps⟩ : ∃ ps, TL.spl [10] 0 [] L = ps := ⟨_, rfl⟩
  rw [hps] at c1 c2 c3
  have lp := frGo16 D (T := L) ps 0 [] none none none none (fun p m => ⟨(c3 p m).1, by have := (c3 p m).2; omega⟩) (by simp only [List.length_nil]; omega)
  rw [← cut_eq c1] at lp
  have key : ∃ ρ', evSs (RF k) f16.body [some (sx L), none, none, none, none, none] = some (.rt (.ot [olOf (toks L), .sh (wrong L)]) (some (sx L) :: ρ')) := by
    generalize RF k = C at *
    rw [body16_eq]
    have s1 : evS C (.asg (.nm 1) (.lst [])) [some (sx L), none, none, none, none, none] = some (.nx (E16 L [] none none none none)) := by
      rw [evS_asg]
      simp
    have sp : ev C (.mth .split (.nm 0) [.c (.str "\n")]) (E16 L [] none none none none) = some (olOf (ps.map fun p => .str (sOf p)), E16 L [] none none none none) := by
      have g : (!((sOf [10]).length == 0) && decide ((sOf L).length + 2 ≤ sizeLine)) = true := by
        rw [len_sOf, len_sOf, decide_eq_true (sz_le (by omega))]
        rfl
      have r0 : rdOs (E16 L [] none none none none) [.sl 0] = some [sx L] := by simp [rdO]
      have e1 : evOs C [.c (.str "\n")] (E16 L [] none none none none) = some ([.tv (sx [10])], E16 L [] none none none none) := by rw [s_nl]; simp
      have r1 : rdOs (E16 L [] none none none none) [.sl 0, .tv (sx [10])] = some [sx L, sx [10]] := by simp [rdO]
      simp only [ev, isNm, r0, mtyp, if_true, e1, r1, prim, s2, gd, g, split_is, hps, List.map_map]
      rfl
    have w : walk .en [O.sh (olOf (ps.map fun p => PyData.str (sOf p))).d] = some (rowsD ps 0) := by
      rw [d_ol]
      rfl
    have fr : evS C (.fr (.tp [.nm 2, .nm 3]) .en [.mth .split (.nm 0) [.c (.str "\n")]] line16) (E16 L [] none none none none) = frGo (fun x ρ2 => (bindTg (.tp [.nm 2, .nm 3]) x ρ2).bind fun ρ3 => evSs C line16 ρ3) (rowsD ps 0) (E16 L [] none none none none) := by
      rw [evS_fr, evs_cons, sp]
      simp only [Option.bind_some, evs_nil, List.map_cons, List.map_nil, w]
    rw [seq1 s1, evSs_cons, fr]
    unfold toks wrong
    cases q : (Wf L 0 0).2 with
    | none =>
      unfold OutV at lp
      rw [q] at lp
      obtain ⟨t2, t3, t4, t5, e⟩ := lp
      rw [List.nil_append] at e
      refine ⟨[none, t2, t3, t4, t5], ?_⟩
      rw [e, thenS_nx, evSs_cons, evS_ret, ev_tupo, evs_cons, ev_mv]
      rfl
    | some v =>
      unfold OutV at lp
      rw [q] at lp
      obtain ⟨ρ', e⟩ := lp
      rw [List.nil_append] at e
      refine ⟨ρ', ?_⟩
      rw [e]
      rfl
  obtain ⟨ρ', e⟩ := key
  exact run_rt (fd := f16) rfl rfl e rfl
end L11
end
section
set_option Elab.async false
set_option linter.all false
set_option maxRecDepth 100000
set_option maxHeartbeats 2000000
namespace L11
open PySem PySem.Spec PyProof.Rows L2 Qv
theorem drawC {k : Nat} (h : 1 ≤ k) : DrawC (RF k) 12 := draw_c (a := 40692) (b := 10399) (m := 2147483587) (q := 2147483549) (d := 43) rfl ⟨by decide, by decide, by decide, by decide, by decide⟩ h
theorem pickC {k : Nat} (h : 2 ≤ k) : PickC (RF k) 13 := pick_c (g := 12) rfl (fun j hj => drawC hj) h
section
variable {C : Cal} {x y : Int} {r : Qv.Env} {g : Nat}
theorem ev_draw (D : DrawC C g) (hp : PotOk x y) (z : Int) (n : Nat) (hz : z = (n : Int)) (h1 : 1 ≤ n) (h2 : n ≤ 100000) : ∃ (w : Nat) (x' y' : Int), w < n ∧ PotOk x' y' ∧ ev C (.call g [.nm 0, .c (.int z)]) (some (pot x y) :: r) = some (nx w, some (pot x' y') :: r) := by
  subst hz
  obtain ⟨w, x', y', h3, h4, q⟩ := D.run x y n hp h1 h2
  refine ⟨w, x', y', h3, h4, ?_⟩
  have ld : lend [.sl 0, .tv (.sh (.int n))] (some (pot x y) :: r) = some ([pot x y, .sh (.int n)], none :: r) := rfl
  simp only [ev_call, evOs_nm, rdO, List.getElem?_cons_zero, Option.bind_some, evOs_c, evOs_nil, ld, q]
  rfl
theorem dL_shs : ∀ cs : List PyData, O.dL (cs.map O.sh) = cs
  | [] => rfl
  | c :: cs => by simp [O.dL, dL_shs cs]
theorem ev_pick (D : PickC C g) (hp : PotOk x y) {τs : List Qv.T} (cs : List PyData) (he : evs C τs (some (pot x y) :: r) = some (cs.map O.sh, some (pot x y) :: r)) (h1 : cs ≠ []) (h2 : cs.length ≤ 100000) :
    ∃ (d : PyData) (x' y' : Int), d ∈ cs ∧ PotOk x' y' ∧ ev C (.call g [.nm 0, .lst τs]) (some (pot x y) :: r) = some (.sh d, some (pot x' y') :: r) := by
  obtain ⟨d, x', y', h3, h4, q⟩ := D.lst x y cs hp h1 h2
  refine ⟨d, x', y', h3, h4, ?_⟩
  have ld : lend [.sl 0, .tv (olOf cs)] (some (pot x y) :: r) = some ([pot x y, olOf cs], none :: r) := rfl
  have el : ev C (.lst τs) (some (pot x y) :: r) = some (olOf cs, some (pot x y) :: r) := by
    rw [ev_lst, he]
    simp only [Option.bind_some, dL_shs]
    exact szd_ok (by rw [List.length_map]; exact sz_le (by omega))
  rw [ev_call, evOs_nm]
  simp only [rdO, List.getElem?_cons_zero, Option.bind_some]
  rw [evOs_lst, el]
  simp only [Option.bind_some, evOs_nil, ld, q]
  rfl
theorem ev_picks (D : PickC C g) (hp : PotOk x y) (z : Str) (h1 : 1 ≤ z.length) (h2 : z.length ≤ 100000) :
    ∃ (c : Nat) (x' y' : Int), c ∈ z.cps.toList ∧ PotOk x' y' ∧ ev C (.call g [.nm 0, .c (.str z)]) (some (pot x y) :: r) = some (sx [c], some (pot x' y') :: r) := by
  obtain ⟨c, x', y', h3, h4, q⟩ := D.str x y z hp h1 h2
  refine ⟨c, x', y', h3, h4, ?_⟩
  have ld : lend [.sl 0, .tv (.sh (.str z))] (some (pot x y) :: r) = some ([pot x y, .sh (.str z)], none :: r) := rfl
  simp only [ev_call, evOs_nm, rdO, List.getElem?_cons_zero, Option.bind_some, evOs_c, evOs_nil, ld, q]
  rfl
end
/-! what is drawn, told by tests -/
def goodB (B : Nat) : PyData → Bool
  | .str x => decide (x.length ≤ B) && x.cps.toList.all fun c => decide (c < 128)
  | _ => false
def natB (B : Nat) : PyData → Bool
  | .int i => decide (0 ≤ i) && decide (i ≤ (B : Int))
  | _ => false
structure Good (B : Nat) (l : List Nat) : Prop where
  len : l.length ≤ B
  asc : ∀ c ∈ l, c < 128
theorem goodB_ok {B : Nat} {d : PyData} (h : goodB B d = true) : ∃ l, d = .str (sOf l) ∧ Good B l := by
  cases d with
  | str x =>
    simp only [goodB, Bool.and_eq_true, decide_eq_true_eq] at h
    refine ⟨x.cps.toList, by rw [sOf_tl], ?_, fun c m => ?_⟩
    · rw [← len_sOf, sOf_tl]
      exact h.1
    · exact of_decide_eq_true (List.all_eq_true.mp h.2 c m)
  | _ => cases h
theorem natB_ok {B : Nat} {d : PyData} (h : natB B d = true) : ∃ n : Nat, d = .int n ∧ n ≤ B := by
  cases d with
  | int i =>
    simp only [natB, Bool.and_eq_true, decide_eq_true_eq] at h
    exact ⟨i.toNat, by rw [Int.toNat_of_nonneg h.1], by omega⟩
  | _ => cases h
theorem Good.app {A B : Nat} {l m : List Nat} (h : Good A l) (h' : Good B m) : Good (A + B) (l ++ m) := ⟨by rw [List.length_append]; have := h.len; have := h'.len; omega, fun c q => (List.mem_append.mp q).elim (h.asc c) (h'.asc c)⟩
theorem Good.mono {A B : Nat} {l : List Nat} (h : Good A l) (hb : A ≤ B) : Good B l := ⟨Nat.le_trans h.len hb, h.asc⟩
theorem goods : ∀ {B : Nat} {ds : List PyData}, (∀ d ∈ ds, goodB B d = true) → ∃ ps : List (List Nat), ds = ps.map (fun p => .str (sOf p)) ∧ ∀ p ∈ ps, Good B p
  | B, [], _ => ⟨[], rfl, fun _ m => by cases m⟩
  | B, d :: ds, h => by
    obtain ⟨l, rfl, hl⟩ := goodB_ok (h d List.mem_cons_self)
    obtain ⟨ps, rfl, hp⟩ := goods fun e m => h e (List.mem_cons_of_mem _ m)
    exact ⟨l :: ps, rfl, fun p m => (List.mem_cons.mp m).elim (fun e => e ▸ hl) (hp p)⟩
theorem joinL_good {A B : Nat} {s : List Nat} (hs : Good A s) : ∀ {ps : List (List Nat)}, (∀ p ∈ ps, Good B p) → Good (ps.length * (A + B)) (TL.joinL s ps)
  | [], _ => ⟨by simp [TL.joinL], fun c m => by simp [TL.joinL] at m⟩
  | [p], h => by
    have := h p List.mem_cons_self
    show Good _ p
    exact this.mono (by rw [List.length_singleton]; omega)
  | p :: q :: ps, h => by
    have h1 := h p List.mem_cons_self
    have ih := joinL_good hs (ps := q :: ps) fun x m => h x (List.mem_cons_of_mem _ m)
    show Good _ (p ++ (s ++ TL.joinL s (q :: ps)))
    refine (h1.app (hs.app ih)).mono ?_
    rw [List.length_cons (as := q :: ps), Nat.add_mul]
    omega
theorem join_is (s : List Nat) (ps : List (List Nat)) : Txt.join (sOf s) (ps.map sOf) = sOf (TL.joinL s ps) := by
  rw [TL.join_eq]
  refine TL.ext_tl ?_
  rw [TL.tl_join, List.map_map]
  have : (TL.tl ∘ sOf) = id := by
    funext l
    exact tl_sOf l
  rw [this, List.map_id, show TL.tl (sOf s) = s from tl_sOf s, show TL.tl (sOf (TL.joinL s ps)) = _ from tl_sOf _]
theorem allSt_map : ∀ ps : List (List Nat), allSt (ps.map fun p => .str (sOf p)) = some (ps.map sOf)
  | [] => rfl
  | p :: ps => by simp [allSt, allSt_map ps]
theorem sumlen {B : Nat} : ∀ {ps : List (List Nat)}, (∀ p ∈ ps, Good B p) → ((ps.map sOf).map Str.length).sum ≤ ps.length * B
  | [], _ => by simp
  | p :: ps, h => by
    have := sumlen (ps := ps) fun x m => h x (List.mem_cons_of_mem _ m)
    have h1 := (h p List.mem_cons_self).len
    simp only [List.map_cons, List.sum_cons, len_sOf, List.length_cons, Nat.add_mul] at *
    omega
theorem pJoin_ok {A B : Nat} {s : List Nat} {ps : List (List Nat)} {o : O} (hs : Good A s) (hp : ∀ p ∈ ps, Good B p) (ho : o.seq? = some (ps.map fun p => .str (sOf p))) (hb : ps.length * (A + B) ≤ 1000000) : pJoin [sx s, o] = some (sx (TL.joinL s ps)) := by
  have h1 := sumlen hp
  have h2 : ((ps.map sOf).map Str.length).sum + (ps.map sOf).length * (sOf s).length ≤ 16777216 := by
    rw [List.length_map, len_sOf]
    have := hs.len
    have : ps.length * s.length ≤ ps.length * A := Nat.mul_le_mul_left _ this
    rw [Nat.mul_add] at hb
    omega
  simp only [pJoin, ho, allSt_map, gd, decide_eq_true h2, if_true, shS, join_is]
/-- "".join(row), the row just made -/
theorem ev_join {C : Cal} {ρ ρ1 : Qv.Env} {e e0 : Qv.T} {A B : Nat} {s : List Nat} {ps : List (List Nat)} (hn0 : isNm e0 = none) (he0 : ev C e0 ρ = some (sx s, ρ0)) (hs : Good A s) (hp : ∀ p ∈ ps, Good B p) (hb : ps.length * (A + B) ≤ 1000000)
    (hn : isNm e = none) (h : ev C e ρ0 = some (olOf (ps.map fun p => .str (sOf p)), ρ1)) : ev C (.mth .join e0 [e]) ρ = some (sx (TL.joinL s ps), ρ1) := by
  have e1 : evOs C [e] ρ0 = some ([.tv (olOf (ps.map fun p => .str (sOf p)))], ρ1) := by rw [evOs_tv hn, h]; rfl
  have r1 : rdOs ρ1 [.tv (sx s), .tv (olOf (ps.map fun p => .str (sOf p)))] = some [sx s, olOf (ps.map fun p => .str (sOf p))] := by
    simp only [rdOs_cons, rdOs_nil, rdO_tv, Option.bind_some, flat_ol, flat_sh, if_true]
  simp only [ev, hn0, he0, flat_sh, mtyp, Bool.and_self, if_true, e1, r1, prim, pJoin_ok hs hp seq_ol hb]
theorem ev_adds {C : Cal} {ρ ρ1 ρ2 : Qv.Env} {a b : Qv.T} {l m : List Nat} (hn : isNm a = none) (hm : isNm b = none) (h : ev C a ρ = some (sx l, ρ1)) (h' : ev C b ρ1 = some (sx m, ρ2)) (hb : l.length + m.length ≤ 1000000) : ev C (.op .add [a, b]) ρ = some (sx (l ++ m), ρ2) := by
  have e : sOf l ++ sOf m = sOf (l ++ m) := by
    refine TL.ext_tl ?_
    rw [TL.tl_append]
    rw [show TL.tl (sOf l) = l from tl_sOf l, show TL.tl (sOf m) = m from tl_sOf m, show TL.tl (sOf (l ++ m)) = _ from tl_sOf _]
  have g : decide ((sOf l).length + (sOf m).length ≤ sizeLine) = true := decide_eq_true (by rw [len_sOf, len_sOf]; exact sz_le hb)
  rw [ev_op, evOs_tv hn, h]
  simp only [Option.bind_some]
  rw [evOs_tv hm, h']
  simp only [Option.bind_some, evOs_nil, rdOs_cons, rdOs_nil, rdO_tv, flat_sh, if_true, prim, pAdd, gd, g, shS, e]
end L11
end
section
set_option Elab.async false
set_option linter.all false
set_option maxRecDepth 100000
set_option maxHeartbeats 2000000
namespace L11
open PySem PySem.Spec PyProof.Rows L2 Qv
section
variable {C : Cal} {x y : Int} {w : Option O}
/-- a word of signs of z, as many as drawn -/
theorem word14 (P : PickC C 13) (hp : PotOk x y) (z : Str) (h1 : 1 ≤ z.length) (h2 : z.length ≤ 1000) (hz : ∀ c ∈ z.cps.toList, c < 128) {τs : List Qv.T} (cs : List PyData) (he : ∀ x y, evs C τs [some (pot x y), w, none] = some (cs.map O.sh, [some (pot x y), w, none])) (hn : cs ≠ []) (hl : cs.length ≤ 1000) (B : Nat) (hc : ∀ d ∈ cs, natB B d = true) (hB : B ≤ 1000) :
    ∃ (l : List Nat) (x' y' : Int), Good B l ∧ PotOk x' y' ∧ ev C (.mth .join (.c (.str "")) [.lc [2] (.nm 2) .rng [.call 13 [.nm 0, .lst τs]] [] (.call 13 [.nm 0, .c (.str z)])]) [some (pot x y), w, none] = some (sx l, [some (pot x' y'), w, none]) := by
  obtain ⟨d, x1, y1, hd, hp1, q1⟩ := ev_pick P hp cs (he x y) hn (by omega)
  obtain ⟨n, rfl, hnB⟩ := natB_ok (hc d hd)
  have e1 : evs C [.call 13 [.nm 0, .lst τs]] [some (pot x y), w, none] = some ([.sh (.int n)], [some (pot x1 y1), w, none]) := by
    rw [evs_cons, q1]
    rfl
  obtain ⟨ds, x2, y2, g1, g2, hp2, q2⟩ := lc_pot (C := C) (ws := [2]) (tg := .nm 2) (e := .call 13 [.nm 0, .c (.str z)]) (n := n) (fun d => goodB 1 d = true) (r0 := [w, none]) (r := [w, none]) hp1 (by omega) e1 (fun _ _ => rfl) (fun _ _ => rfl) (fun o x y hp => by
    obtain ⟨c, x', y', hc, hp', q⟩ := ev_picks (r := [w, some o]) P hp z h1 (by omega)
    refine ⟨.str (sOf [c]), x', y', ?_, hp', ?_⟩
    · have e : (sOf [c]).cps.toList = [c] := tl_sOf _
      simp only [goodB, e, len_sOf, List.length_singleton, List.all_cons, List.all_nil, decide_eq_true (hz c hc)]
      rfl
    · rw [lcT_nm (ρ2 := [some (pot x y), w, some o]) (by simp [bindTg]) q]
      rfl)
  obtain ⟨ps, rfl, hps⟩ := goods g2
  rw [List.length_map] at g1
  have j := ev_join (C := C) (ρ := [some (pot x y), w, none]) (e0 := .c (.str "")) (s := []) (ps := ps) (A := 0) (B := 1) rfl (by rw [ev_c, s_em]) ⟨by simp, fun _ m => by cases m⟩ hps (by omega) rfl q2
  refine ⟨_, x2, y2, ?_, hp2, j⟩
  exact (joinL_good (A := 0) (B := 1) (s := []) ⟨by simp, fun _ m => by cases m⟩ hps).mono (by omega)
/-- one of some texts -/
theorem one14 (P : PickC C 13) (hp : PotOk x y) {τs : List Qv.T} (cs : List PyData) {r : Qv.Env} (he : evs C τs (some (pot x y) :: r) = some (cs.map O.sh, some (pot x y) :: r)) (hn : cs ≠ []) (hl : cs.length ≤ 1000) (B : Nat) (hc : ∀ d ∈ cs, goodB B d = true) :
    ∃ (l : List Nat) (x' y' : Int), Good B l ∧ PotOk x' y' ∧ ev C (.call 13 [.nm 0, .lst τs]) (some (pot x y) :: r) = some (sx l, some (pot x' y') :: r) := by
  obtain ⟨d, x1, y1, hd, hp1, q1⟩ := ev_pick P hp cs he hn (by omega)
  obtain ⟨l, rfl, hl⟩ := goodB_ok (hc d hd)
  exact ⟨l, x1, y1, hl, hp1, q1⟩
theorem if_b {c : Qv.T} {a b : List Qv.S} {ρ ρ1 : Qv.Env} {v : Bool} (h : ev C c ρ = some (.sh (.bool v), ρ1)) : evS C (.ite c a b) ρ = if v = true then evSs C a ρ1 else evSs C b ρ1 := by
  cases v with
  | true => rw [if_tt h]; rfl
  | false => rw [if_ff h]; rfl
end
theorem f14_ok {k : Nat} (h : 3 ≤ k) {x y : Int} (hp : PotOk x y) : ∃ (l : List Nat) (x' y' : Int), Good 63 l ∧ PotOk x' y' ∧ RF k 14 [pot x y] = some (sx l, [pot x' y']) := by
  obtain ⟨k, rfl, hk⟩ := posK h
  have D := drawC (k := k) (by omega)
  have P := pickC (k := k) hk
  have key : ∃ (l : List Nat) (x' y' : Int) (w : Option O), Good 63 l ∧ PotOk x' y' ∧ evSs (RF k) f14.body [some (pot x y), none, none] = some (.rt (sx l) [some (pot x' y'), w, none]) := by
    generalize RF k = C at *
    obtain ⟨w, x1, y1, hw, hp1, q1⟩ := ev_draw (C := C) (r := [none, none]) D hp 12 12 rfl (by omega) (by omega)
    have s1 : evS C (.asg (.nm 1) (.call 12 [.nm 0, .c (.int 12)])) [some (pot x y), none, none] = some (.nx [some (pot x1 y1), some (nx w), none]) := by
      rw [evS_asg, q1]
      rfl
    have lt : ∀ (z : Int) (n : Nat), z = (n : Int) → ev C (.op .lt [.nm 1, .c (.int z)]) [some (pot x1 y1), some (nx w), none] = some (.sh (.bool (decide (w < n))), [some (pot x1 y1), some (nx w), none]) := fun z n hz => by
      subst hz
      have e : decide ((w : Int) < (n : Int)) = decide (w < n) := decide_eq_decide.mpr (by omega)
      simp [rdO, prim, pCmp, e, shB]
    have eq : ∀ (z : Int) (n : Nat), z = (n : Int) → ev C (.op .eq [.nm 1, .c (.int z)]) [some (pot x1 y1), some (nx w), none] = some (.sh (.bool (decide (w = n))), [some (pot x1 y1), some (nx w), none]) := fun z n hz => eq_i z n hz rfl
    unfold f14
    simp only
    rw [seq1 s1, evSs_cons, if_b (lt 4 4 rfl)]
    by_cases h1 : w < 4
    · rw [decide_eq_true h1, if_pos rfl]
      obtain ⟨l, x2, y2, gl, hp2, q⟩ := word14 (C := C) (w := some (nx w)) P hp1 "abz059" (by decide +kernel) (by decide +kernel) (by decide +kernel) (τs := [.c (.int 1), .c (.int 2), .c (.int 3), .c (.int 11), .c (.int 12), .c (.int 13), .c (.int 14)]) [.int 1, .int 2, .int 3, .int 11, .int 12, .int 13, .int 14] (fun x y => by simp) (by simp) (by simp) 14 (by decide) (by omega)
      exact ⟨l, x2, y2, some (nx w), gl.mono (by omega), hp2, by rw [evSs_cons, evS_ret, q]; rfl⟩
    · rw [decide_eq_false h1, if_neg (by decide), evSs_nil, thenS_nx, evSs_cons, if_b (lt 6 6 rfl)]
      by_cases h2 : w < 6
      · rw [decide_eq_true h2, if_pos rfl]
        obtain ⟨l, x2, y2, gl, hp2, q⟩ := one14 (C := C) (r := [some (nx w), none]) P hp1 (τs := [.c (.str "kind"), .c (.str "may"), .c (.str "0"), .c (.str "10"), .c (.str "1234567890"), .c (.str "12345678901"), .c (.str "a234567890bc"), .c (.str "007")]) [.str "kind", .str "may", .str "0", .str "10", .str "1234567890", .str "12345678901", .str "a234567890bc", .str "007"] (by simp) (by simp) (by simp) 12 (by decide +kernel)
        exact ⟨l, x2, y2, some (nx w), gl.mono (by omega), hp2, by rw [evSs_cons, evS_ret, q]; rfl⟩
      · rw [decide_eq_false h2, if_neg (by decide), evSs_nil, thenS_nx, evSs_cons, if_b (eq 6 6 rfl)]
        by_cases h3 : w = 6
        · rw [decide_eq_true h3, if_pos rfl]
          obtain ⟨l, x2, y2, gl, hp2, q⟩ := one14 (C := C) (r := [some (nx w), none]) P hp1 (τs := [.c (.str "("), .c (.str ")"), .c (.str ","), .c (.str "."), .c (.str "="), .c (.str "<"), .c (.str "+"), .c (.str "-"), .c (.str "["), .c (.str "]")]) [.str "(", .str ")", .str ",", .str ".", .str "=", .str "<", .str "+", .str "-", .str "[", .str "]"] (by simp) (by simp) (by simp) 12 (by decide +kernel)
          exact ⟨l, x2, y2, some (nx w), gl.mono (by omega), hp2, by rw [evSs_cons, evS_ret, q]; rfl⟩
        · rw [decide_eq_false h3, if_neg (by decide), evSs_nil, thenS_nx, evSs_cons, if_b (eq 7 7 rfl)]
          by_cases h4 : w = 7
          · rw [decide_eq_true h4, if_pos rfl]
            obtain ⟨l, x2, y2, gl, hp2, q⟩ := word14 (C := C) (w := some (nx w)) P hp1 "ab z" (by decide +kernel) (by decide +kernel) (by decide +kernel) (τs := [.c (.int 0), .c (.int 1), .c (.int 2), .c (.int 12), .c (.int 13), .c (.int 59), .c (.int 60), .c (.int 61)]) [.int 0, .int 1, .int 2, .int 12, .int 13, .int 59, .int 60, .int 61] (fun x y => by simp) (by simp) (by simp) 61 (by decide) (by omega)
            obtain ⟨m, x3, y3, gm, hp3, q3⟩ := one14 (C := C) (r := [some (nx w), none]) P hp2 (τs := [.c (.str "\""), .c (.str "\""), .c (.str "\""), .c (.str ""), .c (.str "9")]) [.str "\"", .str "\"", .str "\"", .str "", .str "9"] (by simp) (by simp) (by simp) 1 (by decide +kernel)
            have g1 : Good 1 [34] := ⟨by simp, by decide⟩
            have a1 := ev_adds (C := C) (a := .c (.str "\"")) rfl rfl (by rw [ev_c, s_q]) q (by have := gl.len; simp only [List.length_singleton]; omega)
            have gg := g1.app gl
            have a2 := ev_adds (C := C) rfl rfl a1 q3 (by have := gg.len; have := gm.len; omega)
            exact ⟨_, x3, y3, some (nx w), (gg.app gm).mono (by omega), hp3, by rw [evSs_cons, evS_ret, a2]; rfl⟩
          · rw [decide_eq_false h4, if_neg (by decide), evSs_nil, thenS_nx, evSs_cons, if_b (eq 8 8 rfl)]
            by_cases h5 : w = 8
            · rw [decide_eq_true h5, if_pos rfl]
              obtain ⟨m, x3, y3, gm, hp3, q3⟩ := one14 (C := C) (r := [some (nx w), none]) P hp1 (τs := [.c (.str ""), .c (.str " a ("), .c (.str "@!"), .c (.str "\""), .c (.str "#")]) [.str "", .str " a (", .str "@!", .str "\"", .str "#"] (by simp) (by simp) (by simp) 4 (by decide +kernel)
              have g1 : Good 1 [35] := ⟨by simp, by decide⟩
              have a1 := ev_adds (C := C) (a := .c (.str "#")) rfl rfl (by rw [ev_c, s_rm]) q3 (by have := gm.len; simp only [List.length_singleton]; omega)
              exact ⟨_, x3, y3, some (nx w), (g1.app gm).mono (by omega), hp3, by rw [evSs_cons, evS_ret, a1]; rfl⟩
            · rw [decide_eq_false h5, if_neg (by decide), evSs_nil, thenS_nx]
              obtain ⟨l, x2, y2, gl, hp2, q⟩ := one14 (C := C) (r := [some (nx w), none]) P hp1 (τs := [.c (.str " "), .c (.str "\n"), .c (.str "  "), .c (.str "\n\n"), .c (.str " "), .c (.str "A"), .c (.str "@"), .c (.str "_"), .c (.str "'"), .c (.str " (a) "), .c (.str "<-"), .c (.str ";"), .c (.str "\"a\"")]) [.str " ", .str "\n", .str "  ", .str "\n\n", .str " ", .str "A", .str "@", .str "_", .str "'", .str " (a) ", .str "<-", .str ";", .str "\"a\""] (by simp) (by simp) (by simp) 12 (by decide +kernel)
              exact ⟨l, x2, y2, some (nx w), gl.mono (by omega), hp2, by rw [evSs_cons, evS_ret, q]; rfl⟩
  obtain ⟨l, x', y', w, gl, hp', e⟩ := key
  exact ⟨l, x', y', gl, hp', run_rt (fd := f14) rfl rfl e rfl⟩
end L11
end
section
set_option Elab.async false
set_option linter.all false
set_option maxRecDepth 100000
set_option maxHeartbeats 2000000
namespace L11
open PySem PySem.Spec PyProof.Rows L2 Qv
/-! ### what is shown -/
theorem rp_tok {L : List Nat} {B : Nat} {t : Tok} (h : TokOk L B t) (hL : ∀ c ∈ L, c < 128) (hB : B ≤ 4000) : Rp 91 1 (tokD t) := by
  have q1 : Rp 62 0 (.str (sOf t.1)) := rp_str (by rw [tl_sOf]; exact fun c m => hL c (h.mem c m)) (by rw [len_sOf]; exact h.len)
  have q2 : Rp 13 0 (.int t.2.1) := rp_int (Nat.le_trans h.row hB)
  have q3 : Rp 13 0 (.int t.2.2) := rp_int (Nat.le_trans h.col hB)
  exact (RpA.cons q1 (RpA.cons q2 (RpA.cons q3 (RpA.nil (N := 0))))).tuple
theorem rp_toks {L : List Nat} (hL : ∀ c ∈ L, c < 128) (hl : L.length ≤ 2600) : Rp 240000 2 (.list (toks L)) := by
  obtain ⟨h1, h2, _⟩ := W_ok L L.length L.length L 0 0 (Nat.le_refl _) (fun _ h => h) (by omega) (by omega)
  have q := RpA.map (f := tokD) (N := 91) (D := 1) (xs := (Wf L 0 0).1) fun t m => rp_tok (h2 t m) hL (by omega)
  refine q.list.mono ?_ (Nat.le_refl _)
  omega
theorem rp_wrong {L : List Nat} (hl : L.length ≤ 2600) : Rp 28 1 (wrong L) := by
  obtain ⟨_, _, h3⟩ := W_ok L L.length L.length L 0 0 (Nat.le_refl _) (fun _ h => h) (by omega) (by omega)
  unfold wrong
  cases q : (Wf L 0 0).2 with
  | none => exact rp_none.mono (Nat.zero_le _) (Nat.zero_le _)
  | some w =>
    have := h3 w q
    exact (RpA.cons (rp_int (n := w.1) (by omega)) (RpA.cons (rp_int (n := w.2) (by omega)) (RpA.nil (N := 0)))).tuple
theorem reprl_ok {os : List O} {N : Nat} (hl : os.length ≤ 100) (h : Rp N 60 (.list (O.dL os))) (hN : N ≤ 2 ^ 20) : prim .reprl os = some (shS (PyData.shown (.list (O.dL os)))) := by
  show pReprL os = _
  unfold pReprL
  rw [if_pos (sz_le (by omega))]
  exact Rp.repr (o := .ol os) h hN
structure Calls (C : Cal) : Prop where
  D : DrawC C 12
  P : PickC C 13
  c14 : ∀ x y : Int, PotOk x y → ∃ (l : List Nat) (x' y' : Int), Good 63 l ∧ PotOk x' y' ∧ C 14 [pot x y] = some (sx l, [pot x' y'])
  c10 : ∀ L : List Nat, L.length ≤ 8000 → C 10 [sx L] = some (olOf (toks L), [sx L])
  c11 : ∀ L : List Nat, L.length ≤ 8000 → C 11 [sx L] = some (.sh (wrong L), [sx L])
  c16 : ∀ L : List Nat, L.length ≤ 8000 → C 16 [sx L] = some (.ot [olOf (toks L), .sh (wrong L)], [sx L])
theorem calls {k : Nat} (h : 5 ≤ k) : Calls (RF k) := ⟨drawC (by omega), pickC (by omega), fun x y hp => f14_ok (by omega) hp, fun L hl => f10_ok h L hl, fun L hl => f11_ok h L hl, fun L hl => f16_ok (by omega) L (by omega)⟩
theorem callk1s {C : Cal} {ρ : Qv.Env} {f i : Nat} {d : PyData} {o : O} (h0 : ρ[i]? = some (some (.sh d))) (q : C f [.sh d] = some (o, [.sh d])) : ev C (.callk f [.nm i] [0]) ρ = some (o, ρ) := by
  have pm : permL [0] [Opd.sl i] = [Opd.sl i] := rfl
  simp only [ev_callk, evOs_nm, evOs_nil, rdO, h0, Option.bind_some, pm, lend, q, back]
theorem mth_val {C : Cal} {k : OpK} {ρ ρ0 ρ1 : Qv.Env} {e0 : Qv.T} {es : List Qv.T} {o0 o : O} {xs : List Opd} {os : List O} (hn0 : isNm e0 = none) (he0 : ev C e0 ρ = some (o0, ρ0)) (hf : o0.isFlat = true) (hm : mtyp k o0 = true) (e1 : evOs C es ρ0 = some (xs, ρ1)) (r1 : rdOs ρ1 (.tv o0 :: xs) = some os) (hp : prim k os = some o) :
    ev C (.mth k e0 es) ρ = some (o, ρ1) := by
  simp only [ev, hn0, he0, hf, hm, Bool.and_self, if_true, e1, r1, hp]
abbrev wenv (p : O) (s1 s2 s3 s4 s5 s6 s7 s8 : Option O) : Qv.Env := [some p, s1, s2, s3, s4, s5, s6, s7, s8, none]
section
variable {C : Cal} {x y : Int} {p : O} {s1 s2 s3 s4 s5 s6 s7 s8 : Option O} {L : List Nat}
theorem st1 (K : Calls C) (hp : PotOk x y) : ∃ (ps : List (List Nat)) (x' y' : Int), ps.length ≤ 39 ∧ (∀ q ∈ ps, Good 63 q) ∧ PotOk x' y' ∧ evS C (.asg (.nm 2) (.lc [9] (.nm 9) .rng [.call 12 [.nm 0, .c (.int 40)]] [] (.call 14 [.nm 0]))) (wenv (pot x y) s1 s2 s3 s4 s5 s6 s7 s8) =
    some (.nx (wenv (pot x' y') s1 (some (olOf (ps.map fun q => .str (sOf q)))) s3 s4 s5 s6 s7 s8)) := by
  obtain ⟨n, x1, y1, hn, hp1, q1⟩ := ev_draw (C := C) (r := [s1, s2, s3, s4, s5, s6, s7, s8, none]) K.D hp 40 40 rfl (by omega) (by omega)
  have e1 : evs C [.call 12 [.nm 0, .c (.int 40)]] (wenv (pot x y) s1 s2 s3 s4 s5 s6 s7 s8) = some ([.sh (.int n)], some (pot x1 y1) :: [s1, s2, s3, s4, s5, s6, s7, s8, none]) := by
    have q1 : ev C (.call 12 [.nm 0, .c (.int 40)]) (wenv (pot x y) s1 s2 s3 s4 s5 s6 s7 s8) = _ := q1
    rw [evs_cons, q1]
    rfl
  obtain ⟨ds, x2, y2, g1, g2, hp2, q2⟩ := lc_pot (C := C) (ws := [9]) (tg := .nm 9) (e := .call 14 [.nm 0]) (n := n) (fun d => goodB 63 d = true) (r := [s1, s2, s3, s4, s5, s6, s7, s8, none]) hp1 (by omega) e1 (fun _ _ => rfl) (fun _ _ => rfl) (fun o x y hp => by
    obtain ⟨l, x', y', gl, hp', q⟩ := K.c14 x y hp
    refine ⟨.str (sOf l), x', y', ?_, hp', ?_⟩
    · simp only [goodB, tl_sOf, len_sOf, decide_eq_true gl.len, Bool.true_and]
      exact List.all_eq_true.mpr fun c m => decide_eq_true (gl.asc c m)
    · have ld : lend [.sl 0] [some (pot x y), s1, s2, s3, s4, s5, s6, s7, s8, some o] = some ([pot x y], [none, s1, s2, s3, s4, s5, s6, s7, s8, some o]) := rfl
      have cl : ev C (.call 14 [.nm 0]) [some (pot x y), s1, s2, s3, s4, s5, s6, s7, s8, some o] = some (sx l, [some (pot x' y'), s1, s2, s3, s4, s5, s6, s7, s8, some o]) := by
        simp only [ev_call, evOs_nm, evOs_nil, rdO, List.getElem?_cons_zero, Option.bind_some, ld, q]
        rfl
      rw [lcT_nm (ρ2 := [some (pot x y), s1, s2, s3, s4, s5, s6, s7, s8, some o]) (by simp [bindTg]) cl]
      rfl)
  obtain ⟨ps, rfl, hps⟩ := goods g2
  rw [List.length_map] at g1
  refine ⟨ps, x2, y2, by omega, hps, hp2, ?_⟩
  have q2 : ev C (.lc [9] (.nm 9) .rng [.call 12 [.nm 0, .c (.int 40)]] [] (.call 14 [.nm 0])) (wenv (pot x y) s1 s2 s3 s4 s5 s6 s7 s8) = _ := q2
  rw [evS_asg, q2]
  rfl
theorem st2 (K : Calls C) (hp : PotOk x y) {ps : List (List Nat)} (hl : ps.length ≤ 39) (hg : ∀ q ∈ ps, Good 63 q) : ∃ (L : List Nat) (x' y' : Int), Good 2496 L ∧ PotOk x' y' ∧ evS C (.asg (.nm 3) (.mth .join (.call 13 [.nm 0, .lst [.c (.str ""), .c (.str " "), .c (.str " ")]]) [.nm 2])) (wenv (pot x y) s1 (some (olOf (ps.map fun q => .str (sOf q)))) s3 s4 s5 s6 s7 s8) =
    some (.nx (wenv (pot x' y') s1 (some (olOf (ps.map fun q => .str (sOf q)))) (some (sx L)) s4 s5 s6 s7 s8)) := by
  obtain ⟨l, x2, y2, gl, hp2, q⟩ := one14 (C := C) (r := [s1, some (olOf (ps.map fun q => .str (sOf q))), s3, s4, s5, s6, s7, s8, none]) K.P hp (τs := [.c (.str ""), .c (.str " "), .c (.str " ")]) [.str "", .str " ", .str " "] (by simp) (by simp) (by simp) 1 (by decide +kernel)
  have q : ev C (.call 13 [.nm 0, .lst [.c (.str ""), .c (.str " "), .c (.str " ")]]) (wenv (pot x y) s1 (some (olOf (ps.map fun q => .str (sOf q)))) s3 s4 s5 s6 s7 s8) = some (sx l, wenv (pot x2 y2) s1 (some (olOf (ps.map fun q => .str (sOf q)))) s3 s4 s5 s6 s7 s8) := q
  refine ⟨TL.joinL l ps, x2, y2, (joinL_good gl hg).mono (by omega), hp2, ?_⟩
  have e1 : evOs C [.nm 2] (wenv (pot x2 y2) s1 (some (olOf (ps.map fun q => .str (sOf q)))) s3 s4 s5 s6 s7 s8) = some ([.sl 2], wenv (pot x2 y2) s1 (some (olOf (ps.map fun q => .str (sOf q)))) s3 s4 s5 s6 s7 s8) := by simp [rdO]
  have r1 : rdOs (wenv (pot x2 y2) s1 (some (olOf (ps.map fun q => .str (sOf q)))) s3 s4 s5 s6 s7 s8) [.tv (sx l), .sl 2] = some [sx l, olOf (ps.map fun q => .str (sOf q))] := by
    simp only [rdOs_cons, rdOs_nil, rdO_tv, rdO, List.getElem?_cons_succ, List.getElem?_cons_zero, Option.bind_some, flat_ol, flat_sh, if_true]
  have e : ev C (.mth .join (.call 13 [.nm 0, .lst [.c (.str ""), .c (.str " "), .c (.str " ")]]) [.nm 2]) (wenv (pot x y) s1 (some (olOf (ps.map fun q => .str (sOf q)))) s3 s4 s5 s6 s7 s8) = some (sx (TL.joinL l ps), wenv (pot x2 y2) s1 (some (olOf (ps.map fun q => .str (sOf q)))) s3 s4 s5 s6 s7 s8) := by
    exact mth_val rfl q rfl rfl e1 r1 (pJoin_ok gl hg seq_ol (show ps.length * (1 + 63) ≤ 1000000 by omega))
  rw [evS_asg, e]
  rfl
theorem st3 (K : Calls C) (hl : L.length ≤ 8000) : evS C (.asg (.tp [.nm 4, .nm 5]) (.call 16 [.nm 3])) (wenv p s1 s2 (some (sx L)) s4 s5 s6 s7 s8) = some (.nx (wenv p s1 s2 (some (sx L)) (some (olOf (toks L))) (some (.sh (wrong L))) s6 s7 s8)) := by
  rw [evS_asg, call1s rfl (K.c16 L hl)]
  simp only [Option.bind_some, bindTa, bindTas]
  rfl
theorem st4 (K : Calls C) (hl : L.length ≤ 8000) : evS C (.asg (.nm 6) (.call 10 [.nm 3])) (wenv p s1 s2 (some (sx L)) s4 s5 s6 s7 s8) = some (.nx (wenv p s1 s2 (some (sx L)) s4 s5 (some (olOf (toks L))) s7 s8)) := by
  rw [evS_asg, call1s rfl (K.c10 L hl)]
  rfl
theorem ne_same {ρ ρ1 ρ2 : Qv.Env} {k : OpK} {as bs : List Qv.T} {xs ys : List Opd} {os : List O} {z : Str} (h1 : evOs C as ρ = some (xs, ρ)) (h2 : rdOs ρ xs = some os) (h3 : evOs C bs ρ = some (ys, ρ)) (h4 : rdOs ρ ys = some os) (h5 : prim k os = some (shS z)) :
    ev C (.op .ne [.op k as, .op k bs]) ρ = some (.sh (.bool false), ρ) := by
  have e1 : ev C (.op k as) ρ = some (shS z, ρ) := by rw [ev_op, h1]; simp only [Option.bind_some, h2, h5]
  have e2 : ev C (.op k bs) ρ = some (shS z, ρ) := by rw [ev_op, h3]; simp only [Option.bind_some, h4, h5]
  rw [ev_op, evOs_op, e1]
  simp only [Option.bind_some]
  rw [evOs_op, e2]
  simp only [Option.bind_some, evOs_nil, rdOs_cons, rdOs_nil, rdO_tv, shS, flat_sh, if_true, prim, pEq, scalD, PyData.eqv, shB, d_sh, Option.map_some, beq_self_eq_true, Bool.not_true]
theorem st5 (K : Calls C) (hl : L.length ≤ 2600) (hc : ∀ c ∈ L, c < 128) : evS C (.ite (.op .ne [.op .reprl [.nm 6, .callk 10 [.nm 3] [0], .call 11 [.nm 3], .callk 11 [.nm 3] [0]], .op .reprl [.nm 4, .nm 4, .nm 5, .nm 5]]) [.ret (.c (.bool false))] []) (wenv p s1 s2 (some (sx L)) (some (olOf (toks L))) (some (.sh (wrong L))) (some (olOf (toks L))) s7 s8) =
    some (.nx (wenv p s1 s2 (some (sx L)) (some (olOf (toks L))) (some (.sh (wrong L))) (some (olOf (toks L))) s7 s8)) := by
  have a1 := callk1s (C := C) (ρ := wenv p s1 s2 (some (sx L)) (some (olOf (toks L))) (some (.sh (wrong L))) (some (olOf (toks L))) s7 s8) (i := 3) rfl (K.c10 L (by omega))
  have a2 := call1s (C := C) (ρ := wenv p s1 s2 (some (sx L)) (some (olOf (toks L))) (some (.sh (wrong L))) (some (olOf (toks L))) s7 s8) (i := 3) rfl (K.c11 L (by omega))
  have a3 := callk1s (C := C) (ρ := wenv p s1 s2 (some (sx L)) (some (olOf (toks L))) (some (.sh (wrong L))) (some (olOf (toks L))) s7 s8) (i := 3) rfl (K.c11 L (by omega))
  have h1 : evOs C [.nm 6, .callk 10 [.nm 3] [0], .call 11 [.nm 3], .callk 11 [.nm 3] [0]] (wenv p s1 s2 (some (sx L)) (some (olOf (toks L))) (some (.sh (wrong L))) (some (olOf (toks L))) s7 s8) = some ([.sl 6, .tv (olOf (toks L)), .tv (.sh (wrong L)), .tv (.sh (wrong L))], wenv p s1 s2 (some (sx L)) (some (olOf (toks L))) (some (.sh (wrong L))) (some (olOf (toks L))) s7 s8) := by
    rw [evOs_nm, evOs_callk, a1]
    simp only [Option.bind_some]
    rw [evOs_call, a2]
    simp only [Option.bind_some]
    rw [evOs_callk, a3]
    simp [rdO]
  have h3 : evOs C [.nm 4, .nm 4, .nm 5, .nm 5] (wenv p s1 s2 (some (sx L)) (some (olOf (toks L))) (some (.sh (wrong L))) (some (olOf (toks L))) s7 s8) = some ([.sl 4, .sl 4, .sl 5, .sl 5], wenv p s1 s2 (some (sx L)) (some (olOf (toks L))) (some (.sh (wrong L))) (some (olOf (toks L))) s7 s8) := by
    simp [rdO]
  have rp : Rp 500000 60 (.list (O.dL [olOf (toks L), olOf (toks L), .sh (wrong L), .sh (wrong L)])) := by
    simp only [dL_cons, dL_nil, d_ol, d_sh]
    have t := rp_toks hc hl
    have w := (rp_wrong hl).mono (Nat.le_refl _) (by omega : 1 ≤ 2)
    exact ((RpA.cons t (RpA.cons t (RpA.cons w (RpA.cons w (RpA.nil (N := 0)))))).list).mono (by decide) (by decide)
  have c := ne_same (C := C) (ρ1 := []) (ρ2 := []) (os := [olOf (toks L), olOf (toks L), .sh (wrong L), .sh (wrong L)]) h1 (by simp [rdO]) h3 (by simp [rdO]) (reprl_ok (by simp) rp (by decide))
  rw [if_ff c, evSs_nil]
theorem st6 (hl : (toks L).length ≤ 8000) : evS C (.ex (.app 6 (.c .none))) (wenv p s1 s2 s3 s4 s5 (some (olOf (toks L))) s7 s8) = some (.nx (wenv p s1 s2 s3 s4 s5 (some (olOf (toks L ++ [.none]))) s7 s8)) := by
  have a := app_of (C := C) (i := 6) (e := .c .none) (ρ := wenv p s1 s2 s3 s4 s5 (some (olOf (toks L))) s7 s8) (os0 := (toks L).map O.sh) (os := (toks L).map O.sh) (v := .sh .none) rfl (by rw [ev_c]) rfl (Nat.lt_of_lt_of_le (show _ < 1000001 by rw [List.length_map]; omega) (by decide))
  have e : (toks L).map O.sh ++ [O.sh (O.sh PyData.none).d] = (toks L ++ [PyData.none]).map O.sh := by simp
  rw [e] at a
  rw [evS_ex, a]
  rfl
def tail4 : List Nat := [10, 48, 32, 120]
theorem s_tail : Str.ofString "\n0 x" = sOf tail4 := by decide +kernel
theorem add4 {ρ : Qv.Env} (h : ρ[3]? = some (some (sx L))) (hl : L.length ≤ 8000) : ev C (.op .add [.nm 3, .c (.str "\n0 x")]) ρ = some (sx (L ++ tail4), ρ) := by
  have e : sOf L ++ sOf tail4 = sOf (L ++ tail4) := by
    refine TL.ext_tl ?_
    rw [TL.tl_append]
    rw [show TL.tl (sOf L) = L from tl_sOf L, show TL.tl (sOf tail4) = tail4 from tl_sOf _, show TL.tl (sOf (L ++ tail4)) = _ from tl_sOf _]
  have g : decide ((sOf L).length + (sOf tail4).length ≤ sizeLine) = true := decide_eq_true (by rw [len_sOf, len_sOf]; exact sz_le (by simp only [tail4, List.length_cons, List.length_nil]; omega))
  rw [s_tail, ev_op, evOs_nm]
  simp only [rdO, h, Option.bind_some, evOs_c, evOs_nil, rdOs_cons, rdOs_nil, rdO_tv, flat_sh, if_true, prim, pAdd, gd, g, shS, e]
theorem st7 (K : Calls C) (hl : L.length ≤ 2500) : evS C (.asg (.tp [.nm 7, .nm 8]) (.call 16 [.op .add [.nm 3, .c (.str "\n0 x")]])) (wenv p s1 s2 (some (sx L)) s4 s5 s6 s7 s8) = some (.nx (wenv p s1 s2 (some (sx L)) s4 s5 s6 (some (olOf (toks (L ++ tail4)))) (some (.sh (wrong (L ++ tail4)))))) := by
  have hl4 : (L ++ tail4).length ≤ 8000 := by rw [List.length_append]; simp only [tail4, List.length_cons, List.length_nil]; omega
  have c := callv (C := C) (f := 16) rfl (add4 (C := C) (ρ := wenv p s1 s2 (some (sx L)) s4 s5 s6 s7 s8) rfl (by omega)) (K.c16 _ hl4)
  rw [evS_asg, c]
  simp only [Option.bind_some, bindTa, bindTas]
  rfl
theorem st8 (K : Calls C) (hl : L.length ≤ 2500) (hc : ∀ c ∈ L, c < 128) : evS C (.ite (.op .ne [.op .reprl [.call 10 [.nm 3], .call 10 [.op .add [.nm 3, .c (.str "\n0 x")]], .call 11 [.op .add [.nm 3, .c (.str "\n0 x")]]], .op .reprl [.nm 4, .nm 7, .nm 8]]) [.ret (.c (.bool false))] []) (wenv p s1 s2 (some (sx L)) (some (olOf (toks L))) s5 s6 (some (olOf (toks (L ++ tail4)))) (some (.sh (wrong (L ++ tail4))))) =
    some (.nx (wenv p s1 s2 (some (sx L)) (some (olOf (toks L))) s5 s6 (some (olOf (toks (L ++ tail4)))) (some (.sh (wrong (L ++ tail4)))))) := by
  have hl4 : (L ++ tail4).length ≤ 2600 := by rw [List.length_append]; simp only [tail4, List.length_cons, List.length_nil]; omega
  have hc4 : ∀ c ∈ L ++ tail4, c < 128 := fun c m => (List.mem_append.mp m).elim (hc c) ((by decide : ∀ c ∈ tail4, c < 128) c)
  have ad := add4 (C := C) (L := L) (ρ := wenv p s1 s2 (some (sx L)) (some (olOf (toks L))) s5 s6 (some (olOf (toks (L ++ tail4)))) (some (.sh (wrong (L ++ tail4))))) rfl (by omega)
  have a1 := call1s (C := C) (ρ := wenv p s1 s2 (some (sx L)) (some (olOf (toks L))) s5 s6 (some (olOf (toks (L ++ tail4)))) (some (.sh (wrong (L ++ tail4))))) (i := 3) rfl (K.c10 L (by omega))
  have a2 := callv (C := C) (f := 10) rfl ad (K.c10 _ (by omega))
  have a3 := callv (C := C) (f := 11) rfl ad (K.c11 _ (by omega))
  have h1 : evOs C [.call 10 [.nm 3], .call 10 [.op .add [.nm 3, .c (.str "\n0 x")]], .call 11 [.op .add [.nm 3, .c (.str "\n0 x")]]] (wenv p s1 s2 (some (sx L)) (some (olOf (toks L))) s5 s6 (some (olOf (toks (L ++ tail4)))) (some (.sh (wrong (L ++ tail4))))) = some ([.tv (olOf (toks L)), .tv (olOf (toks (L ++ tail4))), .tv (.sh (wrong (L ++ tail4)))], wenv p s1 s2 (some (sx L)) (some (olOf (toks L))) s5 s6 (some (olOf (toks (L ++ tail4)))) (some (.sh (wrong (L ++ tail4))))) := by
    rw [evOs_call, a1]
    simp only [Option.bind_some]
    rw [evOs_call, a2]
    simp only [Option.bind_some]
    rw [evOs_call, a3]
    simp
  have h3 : evOs C [.nm 4, .nm 7, .nm 8] (wenv p s1 s2 (some (sx L)) (some (olOf (toks L))) s5 s6 (some (olOf (toks (L ++ tail4)))) (some (.sh (wrong (L ++ tail4))))) = some ([.sl 4, .sl 7, .sl 8], wenv p s1 s2 (some (sx L)) (some (olOf (toks L))) s5 s6 (some (olOf (toks (L ++ tail4)))) (some (.sh (wrong (L ++ tail4))))) := by
    simp [rdO]
  have rp : Rp 500000 60 (.list (O.dL [olOf (toks L), olOf (toks (L ++ tail4)), .sh (wrong (L ++ tail4))])) := by
    simp only [dL_cons, dL_nil, d_ol, d_sh]
    have w := (rp_wrong hl4).mono (Nat.le_refl _) (by omega : 1 ≤ 2)
    exact ((RpA.cons (rp_toks hc (by omega)) (RpA.cons (rp_toks hc4 hl4) (RpA.cons w (RpA.nil (N := 0))))).list).mono (by decide) (by decide)
  have c := ne_same (C := C) (ρ1 := []) (ρ2 := []) (os := [olOf (toks L), olOf (toks (L ++ tail4)), .sh (wrong (L ++ tail4))]) h1 (by simp [rdO]) h3 (by simp [rdO]) (reprl_ok (by simp) rp (by decide))
  rw [if_ff c, evSs_nil]
end
end L11
end
section
set_option Elab.async false
set_option linter.all false
set_option maxRecDepth 100000
set_option maxHeartbeats 2000000
namespace L11
open PySem PySem.Spec PyProof.Rows L2 Qv
def body17 : List Qv.S := match f17.body with
  | .fr _ _ _ b :: _ => b
  | _ => []
theorem turn17 {C : Cal} (K : Calls C) {x y : Int} {s1 s2 s3 s4 s5 s6 s7 s8 : Option O} (hp : PotOk x y) : ∃ (x' y' : Int) (t2 t3 t4 t5 t6 t7 t8 : Option O), PotOk x' y' ∧ evSs C body17 (wenv (pot x y) s1 s2 s3 s4 s5 s6 s7 s8) = some (.nx (wenv (pot x' y') s1 t2 t3 t4 t5 t6 t7 t8)) := by
  obtain ⟨ps, x1, y1, hl, hg, hp1, q1⟩ := st1 (C := C) (s1 := s1) (s2 := s2) (s3 := s3) (s4 := s4) (s5 := s5) (s6 := s6) (s7 := s7) (s8 := s8) K hp
  obtain ⟨L, x2, y2, gL, hp2, q2⟩ := st2 (C := C) (s1 := s1) (s3 := s3) (s4 := s4) (s5 := s5) (s6 := s6) (s7 := s7) (s8 := s8) K hp1 hl hg
  have l1 := gL.len
  have tl := toks_len (L := L) (by omega)
  have Q : evSs C body17 (wenv (pot x y) s1 s2 s3 s4 s5 s6 s7 s8) = some (.nx (wenv (pot x2 y2) s1 (some (olOf (ps.map fun q => .str (sOf q)))) (some (sx L)) (some (olOf (toks L))) (some (.sh (wrong L))) (some (olOf (toks L ++ [.none]))) (some (olOf (toks (L ++ tail4)))) (some (.sh (wrong (L ++ tail4)))))) :=
    (seq1 q1).trans ((seq1 q2).trans ((seq1 (st3 K (by omega))).trans ((seq1 (st4 K (by omega))).trans ((seq1 (st5 K (by omega) gL.asc)).trans ((seq1 (st6 tl)).trans ((seq1 (st7 K (by omega))).trans ((seq1 (st8 K (by omega) gL.asc)).trans evSs_nil)))))))
  exact ⟨x2, y2, _, _, _, _, _, _, _, hp2, Q⟩
theorem loop17 {C : Cal} (K : Calls C) : ∀ (xs : List O) (x y : Int) (s1 s2 s3 s4 s5 s6 s7 s8 : Option O), PotOk x y → ∃ (x' y' : Int) (t1 t2 t3 t4 t5 t6 t7 t8 : Option O), PotOk x' y' ∧
    frGo (fun x ρ2 => (bindTg (.nm 1) x ρ2).bind fun ρ3 => evSs C body17 ρ3) xs (wenv (pot x y) s1 s2 s3 s4 s5 s6 s7 s8) = some (.nx (wenv (pot x' y') t1 t2 t3 t4 t5 t6 t7 t8))
  | [], x, y, s1, s2, s3, s4, s5, s6, s7, s8, hp => ⟨x, y, s1, s2, s3, s4, s5, s6, s7, s8, hp, rfl⟩
  | o :: xs, x, y, s1, s2, s3, s4, s5, s6, s7, s8, hp => by
    obtain ⟨x1, y1, t2, t3, t4, t5, t6, t7, t8, hp1, q⟩ := turn17 (C := C) (s1 := some o) (s2 := s2) (s3 := s3) (s4 := s4) (s5 := s5) (s6 := s6) (s7 := s7) (s8 := s8) K hp
    obtain ⟨x2, y2, u1, u2, u3, u4, u5, u6, u7, u8, hp2, q2⟩ := loop17 K xs x1 y1 (some o) t2 t3 t4 t5 t6 t7 t8 hp1
    refine ⟨x2, y2, u1, u2, u3, u4, u5, u6, u7, u8, hp2, ?_⟩
    have bt : bindTg (.nm 1) o (wenv (pot x y) s1 s2 s3 s4 s5 s6 s7 s8) = some (wenv (pot x y) (some o) s2 s3 s4 s5 s6 s7 s8) := by simp [bindTg]
    simp only [frGo, bt, Option.bind_some, q]
    exact q2
theorem body17_all {C : Cal} (K : Calls C) {x y : Int} (hp : PotOk x y) : ∃ (x' y' : Int) (ρ : Qv.Env), evSs C f17.body (pot x y |> fun p => [some p, none, none, none, none, none, none, none, none, none]) = some (.rt (.sh (.bool true)) ρ) ∧ heldAll 0 [] [pot x y] ρ = some [pot x' y'] := by
  obtain ⟨x', y', t1, t2, t3, t4, t5, t6, t7, t8, _, q⟩ := loop17 K ((List.range 3).map fun (n : Nat) => shI (0 + (n : Int))) x y none none none none none none none none hp
  refine ⟨x', y', wenv (pot x' y') t1 t2 t3 t4 t5 t6 t7 t8, ?_, rfl⟩
  have w : walk .rng [.sh (O.sh (.int 3)).d] = some ((List.range 3).map fun (n : Nat) => shI (0 + (n : Int))) := by simp [walk, gd]
  have s2 : evS C (.fr (.nm 1) .rng [.c (.int 3)] body17) (wenv (pot x y) none none none none none none none none) = some (.nx (wenv (pot x' y') t1 t2 t3 t4 t5 t6 t7 t8)) := by
    rw [evS_fr]
    simp only [evs_cons, evs_nil, ev_c, Option.bind_some, List.map_cons, List.map_nil]
    rw [w]
    exact q
  show evSs C [.fr (.nm 1) .rng [.c (.int 3)] body17, .ret (.c (.bool true))] _ = _
  refine (seq1 s2).trans ?_
  rw [evSs_cons, evS_ret, ev_c]
  rfl
theorem math : ∀ x y : Int, 0 ≤ x → 1 ≤ y → y ≤ 4294967296 → ∃ o2, runF (rows.map (·.2.2)) 25 17 [.ol [shI x, shI y]] = some (.sh (.bool true), [o2]) := fun x y h1 h2 h3 => by
  obtain ⟨x', y', ρ, q, hh⟩ := body17_all (calls (k := 24) (by omega)) (x := x) (y := y) ⟨h1, by omega, h3⟩
  exact ⟨pot x' y', run_rt (fd := f17) rfl rfl q hh⟩
end L11
end
section
set_option Elab.async false
set_option linter.all false
set_option maxRecDepth 100000
set_option maxHeartbeats 0
namespace L11
open PySem PySem.Spec PyProof.Rows L2 Qv
theorem all_ok : allB top pg rows = true := by decide +kernel
theorem all_hb : AllHB top (pg.fs.zip rows) :=
  ⟨fun _ _ _ _ _ _ us hl => match us, hl with | [_], _ => rfl, fun _ _ _ _ _ _ us hl => match us, hl with | [_], _ => rfl, fun _ _ _ _ _ _ us hl => match us, hl with | [_], _ => rfl, fun _ _ _ _ _ _ us hl => match us, hl with | [_], _ => rfl, fun _ _ _ _ _ _ us hl => match us, hl with | [_, _], _ => rfl, fun _ _ _ _ _ _ us hl => match us, hl with | [_, _], _ => rfl, fun _ _ _ _ _ _ us hl => match us, hl with | [_, _], _ => rfl, fun _ _ _ _ _ _ us hl => match us, hl with | [_, _], _ => rfl, fun _ _ _ _ _ _ us hl => match us, hl with | [_], _ => rfl, fun _ _ _ _ _ _ us hl => match us, hl with | [_], _ => rfl, fun _ _ _ _ _ _ us hl => match us, hl with | [_], _ => rfl, fun _ _ _ _ _ _ us hl => match us, hl with | [_], _ => rfl, fun _ _ _ _ _ _ us hl => match us, hl with | [_, _], _ => rfl, fun _ _ _ _ _ _ us hl => match us, hl with | [_, _], _ => rfl, fun _ _ _ _ _ _ us hl => match us, hl with | [_], _ => rfl, fun _ _ _ _ _ _ us hl => match us, hl with | [_, _], _ => rfl, fun _ _ _ _ _ _ us hl => match us, hl with | [_], _ => rfl, fun _ _ _ _ _ _ us hl => match us, hl with | [_], _ => rfl, trivial⟩
theorem all_hk : AllHK top pg rows pg.kw :=
  ⟨fun p hp => by cases hp; exact fun _ _ _ _ _ _ us ws h1 h2 => match us, ws, h1, h2 with | [], [_], _, _ => rfl, fun p hp => by cases hp; exact fun _ _ _ _ _ _ us ws h1 h2 => match us, ws, h1, h2 with | [], [_], _, _ => rfl, trivial⟩
abbrev sPot : Stmt := top 28
abbrev sLaw : Stmt := top 35
def fx : List He.Fa := [.glo "_law_pot", .glo "law"]
def gx : List He.DefD := [mkD "_law_pot" sPot, mkD "law" sLaw]
def fa : List He.Fa := faL pg ++ fx
def fn : List He.DefD := fnL top pg rows ++ gx
abbrev R : PySem.W.OpenRow := PySem.W.OpenLaw.row PySem.Challenge.rw_formscountry_k11_whole_words_of_texts
abbrev hk : PySem.W.Hook := He.hookD 4 fa fn
def ob (s : PySem.W.SharedT) : He.AlD := He.obsDG 4 fa fn (HandSHeadRun.getT s)
theorem ob_eq (s : PySem.W.SharedT) : ob s = hk.obs s.abs := He.obsDG_eq (HandSHeadRun.getT_eq s)
def nmsC0 : List PySem.Str := ["FormError", "LimitError", "InvalidText", "TooMany", "MOST_SIGNS", "LETTERS", "NAME_SIGNS", "TEXT_SIGNS", "TEXT_FIGURES", "MOST_TEXT_SIGNS", "MOST_TEXT_WORDS", "MOST_FIGURES", "MOST_QUOTED", "is_text_any", "want_text", "is_numeral", "is_run_word", "run_size", "quoted_size", "text_word_size", "remark_end", "words_apart", "want_few_words", "text_words", "wrong_sign", "_law_pot", "_law_draw", "_law_pick", "_law_piece", "_law_size"]
def nmsC1 : List PySem.Str := ["_law_words", "_law_right"]
def nmsAll : List PySem.Str := nmsC0 ++ nmsC1
theorem run (w : World) : HandSHeadRun.RunEq R (PySem.W.view R.prog [35]) hk ob 4000 nmsAll w := by
  intro os
  kernel_rfl
theorem scP : FnScope ["script", "k", "cell"] ["script", "k"] (defScope sPot) := fsB_ok (by decide +kernel)
theorem scL : FnScope ["script", "k"] ["script"] (defScope sLaw) := fsB_ok (by decide +kernel)
theorem facts {P : Program} {w : World} {K : PySem.W.Frag} {h : Heap} {mg : Str → Option Value} {f : Addr} (X : K.In h) (G : h.Ns mainGlobals mg) (hfa : mg ("law" : Str) = some (.ref f)) (c : He.SaysD fa fn K) :
    ∃ fd : FuncData, (∀ (s : Shared) (v : Value), BindsTo s fd ⟨[v], []⟩ [("script", v)]) ∧ ∀ base : Heap, K.In base → base.Ns mainGlobals mg → FnG P w K mg base 26 f fd ["script"] (spLaw K) := by
  obtain ⟨fA, fD, ax⟩ := ax_of X G (fa := fx) (fn := gx) c all_ok all_hb all_hk
  have mP := He.glo_ok X G (x := "_law_pot") (fact_mem c (List.mem_append_right _ List.mem_cons_self))
  have mL := He.glo_ok X G (x := "law") (fact_mem c (List.mem_append_right _ (List.mem_cons_of_mem _ List.mem_cons_self)))
  have e := hfa.symm.trans mL
  cases e
  obtain ⟨oc, od, kV, doc, pm, an, cdv, ct, osl, lk, hcd, kp⟩ := mk_fun c (x := "_law_pot") (st := sPot) (List.mem_append_right _ List.mem_cons_self)
  obtain ⟨oc2, od2, kV2, doc2, pm2, an2, cdv2, ct2, osl2, lk2, hcd2, kp2⟩ := mk_fun c (x := "law") (st := sLaw) (List.mem_append_right _ (List.mem_cons_of_mem _ List.mem_cons_self))
  refine ⟨_, fun s v => .of_eq (fd := PySem.W.fnOf "law" "law" (defArgs sLaw) (defBody sLaw) (defScope sLaw) .none kV2 doc2 pm2 an2 cdv2 ct2) rfl, fun base _ _ => ?_⟩
  have potLen : ∀ vs H Q E, spPot K vs H Q E → vs.length = 2 := fun vs H Q E q => by
    obtain ⟨a, ns, k, rfl, _⟩ := q
    rfl
  have FP : FnG P w K mg base 25 (He.ga K "_law_pot") _ ["script", "k"] (spPot K) := fnG_body lk hcd scP potLen fun A outer s H vs Q E hr hg hsp =>
    (pot_body (X := cxF P w K mg base ["script", "k", "cell"] "_law_pot" (defScope sPot) (He.ga K "_law_pot") cdv A outer s H) (sc := defScope sPot) rfl rfl rfl (by decide +kernel) (by decide +kernel) (by decide +kernel) (by decide +kernel) (by decide +kernel) (by decide +kernel) (by decide +kernel)
      ax.blt (by decide) (by decide) (by decide) (by decide) (by decide)).imp fun t ht => ⟨ht.1, ht.2 vs H Q E hsp⟩
  obtain ⟨mR, kR, bR, _, _⟩ := ax.fs 17 "_law_right" ["pot"] rfl
  have FR := all_fn (P := P) (w := w) (base := base) ax 25 17 "_law_right" ["pot"] rfl
  refine fnG_body (sp := spLaw K) lk2 hcd2 scL (fun vs H Q E q => ?_) fun A outer s H vs Q E hr hg hsp => ?_
  · obtain ⟨a, ns, rfl, _⟩ := q
    rfl
  · exact (law_body (X := cxF P w K mg base ["script", "k"] "law" (defScope sLaw) (He.ga K "law") cdv2 A outer s H) (sc := defScope sLaw) rfl rfl rfl hr hg (by decide +kernel) (by decide +kernel) (by decide +kernel) (by decide +kernel) (by decide +kernel) (by decide +kernel) (by decide +kernel) (by decide +kernel) (by decide +kernel)
      (by decide +kernel) (by decide +kernel) ax.blt FR mR kR bR FP mP kp (fun s us l => .of_eq (match us, l with | [_, _], _ => rfl)) math (by decide) (by decide)).imp fun t ht => ⟨ht.1, ht.2 vs H Q E hsp⟩
end L11
open PySem PySem.W PySem.Calls PyProof.Rows
theorem PySem.Challenge.cw_formscountry_k11_whole_words_of_texts_holds : PySem.Challenge.rw_formscountry_k11_whole_words_of_texts.Holds := by
  w_on; o_law
  refine HandSHeadRun.head_any (r := OpenLaw.row PySem.Challenge.rw_formscountry_k11_whole_words_of_texts) (q := view (OpenLaw.row PySem.Challenge.rw_formscountry_k11_whole_words_of_texts).prog [35]) (H := L11.hk) (ob := L11.ob) (M := 4000) (loose := L11.nmsAll) (d := HandSHeadRun.topDef (OpenLaw.row PySem.Challenge.rw_formscountry_k11_whole_words_of_texts).prog 35) (kwd := []) L11.ob_eq
    (by kernel_rfl) (fun s => by kernel_rfl) L11.run (by kernel_rfl) (by kernel_rfl) (by kernel_rfl) (by rfl) (by first | assumption | decide +kernel) (by decide +kernel) ⟨rfl, rfl, rfl, rfl, rfl, by decide +kernel⟩ ?hw ?hc
  case hw => w_witness2
  case hc =>
    refine Qv.walk_ofG (l := PySem.Challenge.rw_formscountry_k11_whole_words_of_texts) (n := 63) (k := 26) (x := "script") rfl (by decide) (by kernel_rfl) ⟨rfl, by decide, by decide⟩ ?F
    intro w mg fa h Y G hmg0
    obtain ⟨K, KX, c⟩ := Y
    have hmg : mg ("law" : PySem.Str) = some (.ref fa) := by
      have e : (HandSHeadRun.topDef (OpenLaw.row PySem.Challenge.rw_formscountry_k11_whole_words_of_texts).prog 35).name = ("law" : PySem.Str) := by kernel_rfl
      rw [← e]
      exact hmg0
    obtain ⟨fd, hb, hF⟩ := L11.facts (P := (PySem.Challenge.rw_formscountry_k11_whole_words_of_texts).prog) (w := w) KX G hmg c
    exact ⟨K, fd, Qv.spLaw K, KX, hb, fun H a ns hl _ hO hS => ⟨a, ns, rfl, Qv.Scr.of hO hS, hl, fun _ => rfl⟩, hF⟩
end
